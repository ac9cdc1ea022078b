/-
  Parts.
-/
import Derived.Test.YtclbiihcbfnjmaaGreatIR
import Derived.Test.YtclbiihcbfnjmaaGreatE4
import Derived.Test.YtclbiihcbfnjmaaGreatE5
namespace Go.Proofs.YtclbiihcbfnjmaaGreat
open Go.RowKit

abbrev nM (h:Nat->FH):List Value:=qC (h 0)++(qC (h 1)++(qC (h 2)++(qC (h 3)++(qC (h 4)++(qC (h 5)++(qC (h 6)++(qC (h 7)++(qC (h 8)++(qC (h 9)++qC (h 10))))))))))
def xu (h:Nat->FH)(j:Nat)(x:FH):Nat->FH:=fun i=>if i=j then x else h i
def fH (q:Nat->Rat)(K:Nat)(h:Nat->FH)(V:World):Prop:=∀j,j<K->FV V (q j) (h j).s (h j).A (h j).n (h j).t (h j).B (h j).m
theorem fH.stable (q:Nat->Rat)(K:Nat)(h:Nat->FH):ck (fH q K h):=fun _ _ hb hf j hj=>(hf j hj).below hb
theorem Env.Lg {w W:World}{P:World->Prop}{q:Nat->Rat}{K:Nat}{h:Nat->FH}(hE:Env w P W)(hf:fH q K h W):Env w (fun V=>P V/\fH q K h V) W:=hE.and (fH.stable _ _ _) hf
theorem adb (x:FH):(qC x).length=4:=rfl
theorem PZ (x:FH):∀v∈qC x,aP v=true:=fun v hv=>by
 simp only[qC,List.mem_cons,List.not_mem_nil,or_false] at hv
 rcases hv with rfl|rfl|rfl|rfl<;>rfl
theorem PR (x:FH):∀v∈qC x,v.oneCell'=true:=fun v hv=>by
 simp only[qC,List.mem_cons,List.not_mem_nil,or_false] at hv
 rcases hv with rfl|rfl|rfl|rfl<;>rfl
section
variable {T:TypeId} {g n cap:Nat} {h:Nat->FH} {W W':World}
theorem Rw.ac9 (hR:Rw T 4 g n cap (fun i=>qC (h i)) W){j:Nat}(hj:j<n)(x:FH):Rw T 4 g n cap (fun i=>qC (xu h j x i)) (W.setCells g (j*4) (qC x))/\W.grownBy (W.setCells g (j*4) (qC x)) (some g):=by
 obtain⟨h1,h2⟩:=hR.put hj (adb x) (PZ x);refine⟨h1.congr fun k _=> ?_,h2⟩;unfold ade xu
 split<;>rfl
theorem Rw.Gi (hR:Rw T 4 g n cap (fun i=>qC (h i)) W){j:Nat}(hj:j<n)(x:FH):(Instr.storeAt 29 (.pointer (some ⟨g,j*4,none⟩)) (.agg (az x.s x.A x.n x.c x.t x.B x.m x.d))).run Tryz.prog W= .ok () (W.setCells g (j*4) (qC x)):=
 run_storeAt_mid (P:= Tryz.prog) W g (j*4) 29 (qC x).toArray (hR.there hj) (by kernel_rfl) (all_oneCell_toArray (PR x))
theorem Rw.yx (hR:Rw T 4 g n cap (fun i=>qC (h i)) W){j i o:Nat}{v:Value}(hj:j<n)(hi:i<4)(ho:o=j*4+i)(hv:(qC (h j))[i]?=some v):W.cell? ⟨g,o,none⟩=some v:=hR.cell hj hi ho hv
theorem fH.put {q q':Nat->Rat}{K K' k:Nat}{x:FH}(hf:fH q K h W)(hR:Rw T 4 g n cap (fun i=>qC (h i)) W)(hg:W.grownBy W' (some g))(hx:FV W (q' k) x.s x.A x.n x.t x.B x.m)(hq:∀j,j<K'->j≠k->j<K/\q' j=q j):fH q' K' (xu h k x) W':=fun j hj=>by
 unfold xu
 by_cases e:j=k
 ·
  subst e;rw[if_pos rfl];exact hR.fv hx hg
 ·
  rw[if_neg e];obtain⟨h1,h2⟩:=hq j hj e;rw[h2];exact hR.fv (hf j h1) hg
theorem fH.congr {q q':Nat->Rat}{K:Nat}(hf:fH q K h W)(hq:∀j,j<K->q j=q' j):fH q' K h W:=fun j hj=>by rw[<-hq j hj];exact hf j hj
end
def zFH :FH:=⟨false,none,0,0,fun _=>0,false,none,0,0,fun _=>0⟩
theorem PT {g:Nat}{h:Nat->FH}{W:World}(hB:au 61 g (nM h).toArray W):Rw 61 4 g 11 11 (fun i=>qC (h i)) W:=by
 refine⟨aq _,by decide,_,hB,rfl,fun i v hv=> ?_,fun k hk i hi=> ?_⟩
 ·
  have h1:v∈nM h:=by
   have:=Array.mem_of_getElem? hv
   simpa using this
  simp only[nM,List.mem_append] at h1
  rcases h1 with h1|h1|h1|h1|h1|h1|h1|h1|h1|h1|h1<;>exact PZ _ v h1
 ·rcases(show k=0\/k=1\/k=2\/k=3\/k=4\/k=5\/k=6\/k=7\/k=8\/k=9\/k=10 by omega) with rfl|rfl|rfl|rfl|rfl|rfl|rfl|rfl|rfl|rfl|rfl<;>rcases(show i=0\/i=1\/i=2\/i=3 by omega) with rfl|rfl|rfl|rfl<;>rfl
theorem PV {g:Nat}{h:Nat->FH}{W:World}(hR:Rw 61 4 g 11 11 (fun i=>qC (h i)) W):W.rangeAt g 0 (nM h):=fun j v hv=>by
 have hj:j<44:=(mM.1 hv).1
 have e:(qC (h (j/4)))[j%4]?=some v:=by
  rw[<-hv]
  have:∀a b,j=a*4+b->b<4->a<11->(qC (h a))[b]?=(nM h)[j]?:=fun a b e hb ha=>by
   subst e
   rcases(show a=0\/a=1\/a=2\/a=3\/a=4\/a=5\/a=6\/a=7\/a=8\/a=9\/a=10 by omega) with rfl|rfl|rfl|rfl|rfl|rfl|rfl|rfl|rfl|rfl|rfl<;>rcases(show b=0\/b=1\/b=2\/b=3 by omega) with rfl|rfl|rfl|rfl<;>rfl
  exact this _ _ (by omega) (by omega) (by omega)
 rw[fk];exact hR.yx (show j/4<11 by omega) (show j%4<4 by omega) (by omega) e
theorem ac8 (g:Nat){k:Nat}(hk:k<10)(W:World):(Instr.index 123 (.agg #[.pointer (some ⟨g,0,none⟩),.pointer (some ⟨g,4,none⟩),.pointer (some ⟨g,8,none⟩),.pointer (some ⟨g,12,none⟩),.pointer (some ⟨g,16,none⟩),.pointer (some ⟨g,20,none⟩),.pointer (some ⟨g,24,none⟩),.pointer (some ⟨g,28,none⟩),.pointer (some ⟨g,32,none⟩),.pointer (some ⟨g,36,none⟩)]) (.int .i64 (k:Int))).run Tryz.prog W= .ok (.pointer (some ⟨g,k*4,none⟩)) W:=by
 rcases(show k=0\/k=1\/k=2\/k=3\/k=4\/k=5\/k=6\/k=7\/k=8\/k=9 by omega) with rfl|rfl|rfl|rfl|rfl|rfl|rfl|rfl|rfl|rfl<;>kernel_rfl
theorem PX (h:Nat->FH){k:Nat}(hk:k<10)(W:World):(Instr.index 126 (.agg (xp h).toArray) (.int .i64 (k:Int))).run Tryz.prog W= .ok (.agg #[.bool (h k).s,.slice (h k).A (h k).n (h k).c,.bool (h k).t,.slice (h k).B (h k).m (h k).d]) W:=by
 rcases(show k=0\/k=1\/k=2\/k=3\/k=4\/k=5\/k=6\/k=7\/k=8\/k=9 by omega) with rfl|rfl|rfl|rfl|rfl|rfl|rfl|rfl|rfl|rfl<;>kernel_rfl
theorem Wk (h:Nat->FH){k:Nat}(hk:k<10)(W:World):(Instr.index 126 (.agg #[.bool (h 0).s,.slice (h 0).A (h 0).n (h 0).c,.bool (h 0).t,.slice (h 0).B (h 0).m (h 0).d,.bool (h 1).s,.slice (h 1).A (h 1).n (h 1).c,.bool (h 1).t,.slice (h 1).B (h 1).m (h 1).d,.bool (h 2).s,.slice (h 2).A (h 2).n (h 2).c,.bool (h 2).t,.slice (h 2).B (h 2).m (h 2).d,.bool (h 3).s,.slice (h 3).A (h 3).n (h 3).c,.bool (h 3).t,.slice (h 3).B (h 3).m (h 3).d,.bool (h 4).s,.slice (h 4).A (h 4).n (h 4).c,.bool (h 4).t,.slice (h 4).B (h 4).m (h 4).d,.bool (h 5).s,.slice (h 5).A (h 5).n (h 5).c,.bool (h 5).t,.slice (h 5).B (h 5).m (h 5).d,.bool (h 6).s,.slice (h 6).A (h 6).n (h 6).c,.bool (h 6).t,.slice (h 6).B (h 6).m (h 6).d,.bool (h 7).s,.slice (h 7).A (h 7).n (h 7).c,.bool (h 7).t,.slice (h 7).B (h 7).m (h 7).d,.bool (h 8).s,.slice (h 8).A (h 8).n (h 8).c,.bool (h 8).t,.slice (h 8).B (h 8).m (h 8).d,.bool (h 9).s,.slice (h 9).A (h 9).n (h 9).c,.bool (h 9).t,.slice (h 9).B (h 9).m (h 9).d]) (.int .i64 (k:Int))).run Tryz.prog W= .ok (.agg #[.bool (h k).s,.slice (h k).A (h k).n (h k).c,.bool (h k).t,.slice (h k).B (h k).m (h k).d]) W:=PX h hk W
theorem gQ {P:Program}{w:World}{ops:Array Oper}{rest:List Oper}{o:Oper}{a:Act}{Q:Exit->Act->World->Prop}{ty:TypeId}{x:Operand}{p v:Value}(hr:(Instr.loadAt ty p).run P w= .ok v w)(hg:o.guard=none)(ho:o.op= .load ty x)(hx:a.eval x=p)
  (h:wpList P ops Q rest (a.put o.dst v) w):wpList P ops Q (o::rest) a w:=
 wpList_plain hg fun _ hK=>by
  unfold Oper.wp execOp;simp only[ho,hx,Sem.run_bind,Sem.run_pure,Result.andThen_ok,hr];exact hK _ _ h
theorem Gb {P:Program}{w:World}{ops:Array Oper}{rest:List Oper}{o:Oper}{a:Act}{Q:Exit->Act->World->Prop}{ty:TypeId}{x:Operand}{p v:Value}(hr:(Instr.loadAt ty p).run P w= .ok v w)(hw:Region.wanted o (yielded ops a.tmps)=true)(ho:o.op= .load ty x)(hx:a.eval x=p)
  (h:wpList P ops Q rest (a.put o.dst v) w):wpList P ops Q (o::rest) a w:=by
 unfold wpList;rw[if_pos hw];refine .inl ?_;unfold Oper.wp execOp;simp only[ho,hx,Sem.run_bind,Sem.run_pure,Result.andThen_ok,hr];exact h
theorem xS (W:World)(T:TypeId){z:Array Value}(cs:List Value)(hl:z.size=cs.length)(hs:(Tryz.prog.info? T).map (·.size)=some cs.length)(h1:cs.all (fun v=>v.oneCell')=true):
  ∃V,(Instr.storeAt T (.pointer (some ⟨W.heap.size,0,none⟩)) (.agg cs.toArray)).run Tryz.prog (W.alloc (.cells z T))= .ok () V/\Below W.heap.size W V/\au T W.heap.size cs.toArray V:=by
 have hB:=au.new W T z;obtain⟨h2,h3⟩:=oo hB cs hl;exact⟨_,oK T hB cs hl hs (jZ.1 h1),Go.Proofs.YtclbiihcbfnjmaaGreat.Below.aD (er W _) h2 (by rw[fe];omega) (aq _),h3⟩
end Go.Proofs.YtclbiihcbfnjmaaGreat
