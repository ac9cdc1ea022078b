/-
  Parts.
-/
import Derived.Test.YtclbiihcbfnjmaaGreatE6A
namespace Go.Proofs.YtclbiihcbfnjmaaGreat
open Go.RowKit

def QN (r:Nat->Gr):Nat->List Value
 |0=> []
 |n+1=>QN r n++(r n).C
theorem jA (r:Nat->Gr):∀n,(QN r n).length=n*12
 |0=>rfl
 |n+1=>by
  rw[QN,List.length_append,jA r n];show n*12+12=_;omega
theorem EG (r:Nat->Gr):∀n k i,k<n->i<12->(QN r n)[k*12+i]?=(r k).C[i]?
 |0,_,_,h,_=>absurd h (Nat.not_lt_zero _)
 |n+1,k,i,hk,hi=>by
  unfold QN
  by_cases e:k=n
  ·
   subst e;rw[List.getElem?_append_right (by rw[jA];omega),jA,Nat.add_sub_cancel_left]
  ·rw[List.getElem?_append_left (by rw[jA];omega),EG r n k i (by omega) hi]
theorem Gr.afu {p:Value->Bool}(g:Gr)(h1:∀z,p (.int .i64 z)=true)(h2:∀b,p (.bool b)=true)(h3:∀A n c,p (.slice A n c)=true):∀v∈g.C,p v=true:=fun v hv=>by
 simp only[List.mem_cons,List.not_mem_nil,or_false] at hv
 rcases hv with rfl|rfl|rfl|rfl|rfl|rfl|rfl|rfl|rfl|rfl|rfl|rfl<;>first|exact h1 _|exact h2 _|exact h3 _ _ _
theorem GQ {p:Value->Bool}(r:Nat->Gr)(h1:∀z,p (.int .i64 z)=true)(h2:∀b,p (.bool b)=true)(h3:∀A n c,p (.slice A n c)=true):∀n,∀v∈QN r n,p v=true
 |0,v,h=>by cases h
 |n+1,v,h=>by
  rcases List.mem_append.1 h with h|h
  ·exact GQ r h1 h2 h3 n v h
  ·exact Gr.afu _ h1 h2 h3 v h
theorem nP.points {b o n:Nat}{r:Nat->Gr}{W:World}(h:nP (some ⟨b,o,none⟩) n r W):∀(j:Nat) (v:Value),(QN r n)[j]?=some v->W.cell? ((⟨b,o,none⟩:Addr).add j)=some v:=fun j v hv=>by
 have hj:j<n*12:=by have:=(List.getElem?_eq_some_iff.1 hv).1;rw[jA] at this;exact this
 obtain⟨b',o',e,-,hc⟩:=h (by omega)
 cases e
 have h1:=(hc (j/12) (by omega)).1
 have e2:j=j/12*12+j%12:=by omega
 rw[e2,EG r n _ _ (by omega) (Nat.mod_lt _ (by decide))] at hv;rw[Addr.add_mid];have h2:=h1 (j%12) v hv;rw[show o+j=o+j/12*12+j%12 by omega];exact h2
theorem ve (ty:TypeId){A:Option Addr}{n c g0:Nat}{r:Nat->Gr}{W:World}(h:nP A n r W)(hn:n<=32)(hB:ak 72 g0 #[] W):
  ∃g cap W',(Builtin.append_ #[65,65] ty #[.slice (some ⟨g0,0,none⟩) 0 0,.slice A n c]).run Tryz.prog W= .ok (.slice (some ⟨g,0,none⟩) n cap) W'/\g0<=g/\Rw 72 12 g n cap (fun k=>(r k).C) W'/\Below W.heap.size W W':=by
 have yJ: Tryz.prog.underlying 65=some (.slice 72):= Tryz.underlying65
 have NG:(Tryz.prog.info? 72).map (fun i=>(i.zero,i.size,i.bytes))=some (some (.agg #[.int .i64 0,.int .i64 0,.int .i64 0,.bool false,.slice none 0 0,.bool false,.slice none 0 0,.slice none 0 0,.slice none 0 0,.int .i64 0,.int .i64 0,.int .i64 0]),12,160):=by kernel_rfl
 obtain⟨i,hi,hz,hs,hby⟩:=info_parts NG
 by_cases h0:n=0
 ·
  subst h0;refine⟨g0,0,W, ?_,Nat.le_refl _,⟨Nat.le_refl _,Nat.zero_le _,_,hB,rfl,fun i v hv=>by simp at hv,fun k hk=>absurd hk (Nat.not_lt_zero k)⟩,Below.refl _ _⟩
  cases A with
  |none=>simp[Builtin.append_,run_underlying yJ,sizeOf,typeInfo,hi,Builtin.lenOf,Builtin.firstCells,storeCells]
  |some a=>simp[Builtin.append_,run_underlying yJ,sizeOf,typeInfo,hi,Builtin.lenOf,Builtin.firstCells,storeCells,loadCells,loadCellsFrom]
 ·
  obtain⟨b,o,rfl,-⟩:=h (by omega);have hr:=run_append_grow (P:= Tryz.prog) (w:=W) 65 ty 72 i _ yJ hi hz ⟨g0,0,none⟩ 0 0 [] (by simp) (by simp) ⟨b,o,none⟩ n c (QN r n) (by rw[jA,hs]) h.points (by omega) (by omega) (growslice_fits (by omega) (by rw[hby];omega));have hge:=grownCap_ge W (0+n) 0 72;have NH:=grownCap_le_maxLen W (0+n) 0 72 (show 0+n<=maxLen by unfold maxLen;omega);rw[Nat.zero_add] at hr hge NH;refine⟨W.heap.size,_,_,hr,Nat.le_of_lt hB.lt,⟨hge,NH,_,heap_alloc_new W.drew _, ?_, ?_, ?_⟩, ?_⟩
  ·
   obtain⟨d,hd⟩:∃d,grownCap W n 0 72=n+d:=⟨_,(Nat.add_sub_cancel' hge).symm⟩
   rw[hd,Nat.add_sub_cancel_left];simp only[Array.size_append,List.size_toArray,size_zeroCells,jA,List.length_nil];show 0+n*12+d*12=_;rw[Nat.add_mul];omega
  ·
   refine NI (olds:=[]) (x:=QN r n) (fun v hv=>absurd hv (by simp)) (GQ r (fun _=>rfl) (fun _=>rfl) (fun _ _ _=>rfl) n) (Jh (z:=Value.cells (.agg #[.int .i64 0,.int .i64 0,.int .i64 0,.bool false,.slice none 0 0,.bool false,.slice none 0 0,.slice none 0 0,.slice none 0 0,.int .i64 0,.int .i64 0,.int .i64 0])) ?_ (by decide) (k:=grownCap W n 0 72-n)) (by simp);intro v hv;simp only[Value.cells,List.mem_toArray,List.mem_cons,List.not_mem_nil,or_false] at hv
   rcases hv with rfl|rfl|rfl|rfl|rfl|rfl|rfl|rfl|rfl|rfl|rfl|rfl<;>rfl
  ·
   intro k hk i hi
   have h9:k*12+i<(QN r n).length:=by rw[jA];omega
   rw[<-EG r n k i hk hi,<-Array.getElem?_toList];simp only[Array.toList_append,List.nil_append];rw[List.getElem?_append_left (by simpa using h9)]
  ·exact((Below.refl _ W).drew).alloc (Nat.le_refl _) _
theorem Rw.xy {T:TypeId}{m g n cap j i:Nat}{e:Nat->List Value}{W:World}(h:Rw T m g n cap e W)(hj:j<n)(hi:i<m)(hl:(e j).length=m)(v:Value)(hv:aJ v=true):Rw T m g n cap (qx e j ((e j).set i v)) (W.setCell ⟨g,j*m+i,none⟩ v):=by
 obtain⟨h1,h2,cs,h3,h4,h5,h6⟩:=h;refine⟨h1,h2,_,h3.bW (j*m+i) v,by rw[Array.size_setIfInBounds,h4],fun k u hu=> ?_,fun k hk l hlm=> ?_⟩
 ·
  rw[Array.getElem?_setIfInBounds] at hu
  split at hu
  ·
   split at hu
   ·cases hu;exact hv
   ·cases hu
  ·exact h5 k u hu
 ·
  rw[Array.getElem?_setIfInBounds];unfold qx;have hin:=EI (m:=m) (show j<cap by omega) hi
  by_cases c:k=j
  ·
   subst c;rw[if_pos rfl]
   by_cases c2:i=l
   ·
    subst c2;rw[if_pos rfl,if_pos (by rw[h4];exact hin),List.getElem?_set_self (by rw[hl];exact hi)]
   ·rw[if_neg (by omega),List.getElem?_set_ne c2,h6 k hk l hlm]
  ·
   have h9:=wz (k:=k) (j:=j) (m:=m) (i:=l) c hlm;rw[if_neg (by intro e9;apply h9;omega),if_neg c,h6 k hk l hlm]
theorem Co {P:Program}{w w':World}{ops:Array Oper}{rest:List Oper}{o:Oper}{a:Act}{Q:Exit->Act->World->Prop}{s x:Operand}{t:TypeId}{v1 v2 v':Value}(hr:(Builtin.append_ #[t,t] o.type #[v1,v2]).run P w= .ok v' w')(hg:o.guard=none)(ho:o.op= .call {callee:= .builtin .append,args:=#[s,x],argTypes:=#[t,t]})(hs:a.eval s=v1)(hx:a.eval x=v2)
  (h:wpList P ops Q rest (a.put o.dst v') w'):wpList P ops Q (o::rest) a w:=
 wpList_plain hg fun _ hK=>lX ho hs hx hr (hK _ _ h)
theorem EJ {P:Program}{w w':World}{ops:Array Oper}{rest:List Oper}{o:Oper}{a:Act}{Q:Exit->Act->World->Prop}{t:TypeId}{v':Value}(hr:(Instr.buildSlice t 0 #[]).run P w= .ok v' w')(hg:o.guard=none)(ho:o.op= .buildSlice t 0 #[])
  (h:wpList P ops Q rest (a.put o.dst v') w'):wpList P ops Q (o::rest) a w:=
 wpList_plain hg fun _ hK=>by
  unfold Oper.wp execOp;simp only[ho,List.map_toArray,List.map_nil,Sem.run_bind,Sem.run_pure,hr,Result.andThen_ok];exact hK _ _ h
theorem Cp (W:World):(Instr.buildSlice 65 0 #[]).run Tryz.prog W= .ok (.slice (some ⟨W.heap.size,0,none⟩) 0 0) (W.alloc (.cells #[] 72)):=by
 have yJ: Tryz.prog.underlying 65=some (.slice 72):= Tryz.underlying65
 have NG:(Tryz.prog.info? 72).map (fun i=>(i.zero,i.size,i.bytes))=some (some (.agg #[.int .i64 0,.int .i64 0,.int .i64 0,.bool false,.slice none 0 0,.bool false,.slice none 0 0,.slice none 0 0,.slice none 0 0,.int .i64 0,.int .i64 0,.int .i64 0]),12,160):=by kernel_rfl
 obtain⟨i,hi,hz,hs,hby⟩:=info_parts NG
 have e:∀f:Nat->Value,Array.map f (Array.range 0)=#[]:=fun f=>Array.eq_empty_of_size_eq_zero (by simp)
 simp[Instr.buildSlice,run_underlying yJ,sizeOf,typeInfo,hi,newRow,Instr.fill,e]
abbrev Gr.two (g:Gr):Gr:=⟨g.x,g.t,2*g.a,2*g.d⟩
abbrev Yh.two (y:Yh)(A:Option Addr)(c:Nat):Yh:=⟨y.b,y.d,y.j,A,y.n,c,fun k=>(y.r k).two⟩
theorem Tm (b d:Bh)(j:Rat)(g:Gr)(k:Nat):wq b d j g.two k=wq b d j g k+wq b d j g k:=by
 unfold wq;show p4 _ _ _ _ _ _ _ _ _ ((2*g.a:Int):Rat) ((2*g.d:Int):Rat) k=_;rw[Rat.intCast_mul,Rat.intCast_mul];exact Tn k
theorem NJ (y:Yh)(A:Option Addr)(c k:Nat):(if k=10 then fI (rep (y.two A c).it y.n) else rep (y.two A c).it y.n k)=(if k=10 then fI (rep y.it y.n) else rep y.it y.n k)+(if k=10 then fI (rep y.it y.n) else rep y.it y.n k):=by
 have h:∀k,rep (y.two A c).it y.n k=rep y.it y.n k+rep y.it y.n k:=fun k=>Tp fun g _=>Tm _ _ _ _ k
 by_cases e:k=10
 ·
  rw[if_pos e,if_pos e]
  exact Cq _ _ _ fun k _=>h k
 ·
  rw[if_neg e,if_neg e];exact h k
def vf (r:Nat->Gr)(k:Nat)(j:Nat):List Value:=if j<k then(r j).two.C else(r j).C
end Go.Proofs.YtclbiihcbfnjmaaGreat
