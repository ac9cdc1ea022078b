/-
  Parts.
-/
import Derived.Test.YtclbiihcbfnjmaaGreatK1
import Derived.RangeFuncNested
import Derived.RangeFuncBound
import Derived.Shelf.RegionOpen
import Derived.OwnWalkIn
import Derived.LoopNIn
import Derived.LoopIn
set_option maxHeartbeats 2000000
set_option maxRecDepth 100000
namespace Go.Proofs.YtclbiihcbfnjmaaGreat
section
open Go.RowKit

def Ir (H a b m i:Nat)(wr:World):Prop:=∃f:Nat->Nat,Row wr H 171 .u32 m m f/\(∀j,f j<4294967296)/\vs ah f m=vs ah (aB ah a) i*b/\∀j,i+ln ah b<=j->f j=0
def rV (H a b m i k c:Nat)(wr:World):Prop:=∃f:Nat->Nat,Row wr H 171 .u32 m m f/\(∀j,f j<4294967296)/\vs ah f m+ah^(i+k)*c=vs ah (aB ah a) i*b+ah^i*(aB ah a i*vs ah (aB ah b) k)/\c<4294967296/\∀j,i+ln ah b<=j->f j=0

theorem Ir.inner {H a b m i:Nat}{wr:World}(h:Ir H a b m i wr):rV H a b m i 0 0 wr:=by
 obtain⟨f,h1,h2,h3,h4⟩:=h;exact⟨f,h1,h2,by simpa [vs] using h3,by decide,h4⟩
theorem rV.step {H a b m i k c:Nat}{wr:World}{f:Nat->Nat}(h1:Row wr H 171 .u32 m m f)(h2:∀j,f j<4294967296)
  (h3:vs ah f m+ah^(i+k)*c=vs ah (aB ah a) i*b+ah^i*(aB ah a i*vs ah (aB ah b) k)) (h4:c<4294967296) (h5:∀j,i+ln ah b<=j->f j=0)
  (hk:k<ln ah b) (hm:i+ln ah b<m) {u v:Int} (hu:u=((aB ah a i:Nat):Int)*(aB ah b k:Nat)+(f (i+k):Nat)+(c:Nat)) (hv:v=u%4294967296):
  rV H a b m i (k+1) ((u/4294967296).toNat) (wr.setCell ⟨H,i+k,none⟩ (.int .u32 v)):=by
 have e:u=((aB ah a i*aB ah b k+f (i+k)+c:Nat):Int):=by rw[hu,Int.natCast_add,Int.natCast_add,Int.natCast_mul]
 have hp:=eC (aP a i) (aP b k);have hf:=h2 (i+k)
 have ev:v=(((aB ah a i*aB ah b k+f (i+k)+c)%ah:Nat):Int):=by rw[hv,e];rfl
 have et:(u/4294967296).toNat=(aB ah a i*aB ah b k+f (i+k)+c)/ah:=by rw[e];rfl
 rw[ev,et];refine⟨fun j=>if j=i+k then(aB ah a i*aB ah b k+f (i+k)+c)%ah else f j,h1.set (by simp) fun j _ hj=>by simp[hj],fun j=> ?_, ?_, ?_,fun j hj=> ?_⟩
 ·
  by_cases hj:j=i+k
  ·simp only[hj,if_true];exact Nat.mod_lt _ (by decide)
  ·simp only[hj,if_false];exact h2 j
 ·
  rw[aZ ah (aB ah b) k];exact Ou (by omega) (fun j _ hj=>by simp[hj]) (by simp) h3
 ·
  rw[Nat.div_lt_iff_lt_mul (by decide)];show _<4294967296*4294967296;omega
 ·simp only[show¬j=i+k by omega,if_false];exact h5 j hj
theorem rV.done {H a b m i c:Nat}{wr:World}(h:rV H a b m i (ln ah b) c wr)(hm:i+ln ah b<m):Ir H a b m (i+1) (wr.setCell ⟨H,i+ln ah b,none⟩ (.int .u32 (c:Int))):=by
 obtain⟨f,h1,h2,h3,h4,h5⟩:=h;refine⟨fun j=>if j=i+ln ah b then c else f j,h1.set (by simp) fun j _ hj=>by simp[hj],fun j=> ?_, ?_,fun j hj=> ?_⟩
 ·
  by_cases hj:j=i+ln ah b
  ·simp only[hj,if_true];exact h4
  ·simp only[hj,if_false];exact h2 j
 ·
  have hs:=Ot (B:=ah) (f:=f) (g:=fun j=>if j=i+ln ah b then c else f j) hm fun j _ hj=>by simp[hj]
  rw[cL aF] at h3;rw[h5 _ (Nat.le_refl _)] at hs;simp only[if_true] at hs;rw[aZ,Nat.add_mul,Nat.mul_assoc,<-h3];omega
 ·simp only[show¬j=i+ln ah b by omega,if_false];exact h5 j (by omega)

theorem J7 (A B:Option Addr)(c d a b:Nat)(w:World)(ha:aL w A a)(hb:aL w B b)(hn:ln ah a<=1000000)(hm:ln ah b<=1000000):
  Calls Tryz.prog 158 #[.slice A (ln ah a) c,.slice B (ln ah b) d] w (QT w (a*b)):=by
 have hmk:=CM (ln ah a+ln ah b) (ln ah a+ln ah b) (Nat.le_refl _) (by omega);rw[show((ln ah a+ln ah b:Nat):Int)=(ln ah a:Int)+ln ah b by omega] at hmk
 go_enter Tryz.func158,Tryz.ntmps158
 go_wp2
 clear hmk
 go_loopw [20] (fun i wr=>∃k:Nat,k<=ln ah a/\i= .int .i64 k/\Ir w.heap.size a b (ln ah a+ln ah b) k wr/\Below w.heap.size w wr) (fun i _=>ln ah a-(intOf i).toNat)
 case atStart=>exact⟨0,Nat.zero_le _,rfl,⟨fun _=>0,Row.made,fun _=>by show(0:Nat)<4294967296;decide,by rw[uj fun _ _=>rfl];simp[vs],fun _ _=>rfl⟩,(Below.refl _ _).alloc (Nat.le_refl _) _⟩
 case round=>
  obtain⟨i,hi,rfl,hst,aV⟩:=hrel
  by_cases hlt:i<ln ah a
  ·
   obtain⟨p,q,rfl,hp,hca⟩:=ha (by omega);have c0:=(aV.cell (p:=⟨p,q+i,none⟩) hp).trans (hca i hlt);have hxi:=aP a i
   obtain⟨wo,rfl⟩:∃wo:World,wo=wr:=⟨_,rfl⟩
   go_wp2_with fail
   go_loopw [8,27] (fun cy j wr=>∃k y:Nat,k<=ln ah b/\j= .int .i64 k/\cy= .int .u64 (y:Int)/\rV w.heap.size a b (ln ah a+ln ah b) i k y wr/\Below w.heap.size w wr) (fun _ j _=>ln ah b-(intOf j).toNat)
   case atStart=>exact⟨0,0,Nat.zero_le _,rfl,rfl,hst.inner,aV⟩
   case round=>
    obtain⟨k,y,hk,rfl,rfl,hin,dD⟩:=hrel
    by_cases QZ:k<ln ah b
    ·
     obtain⟨p',q',rfl,hp',hcb⟩:=hb (by omega);have c1:=(dD.cell (p:=⟨p',q'+k,none⟩) hp').trans (hcb k QZ);obtain⟨f,h1,h2,h3,h4,h5⟩:=hin;have c2:=h1.cell (i:=i+k) (by omega);have c3:=h1.frozen (i+k);have hyk:=aP b k;have hf:=h2 (i+k);have hmul:=eC hxi hyk
     have aph:((aB ah a i:Nat):Int)*(aB ah b k:Nat)<=18446744065119617025:=by rw[<-Int.natCast_mul];omega
     have apj:0<=((aB ah a i:Nat):Int)*(aB ah b k:Nat):=by rw[<-Int.natCast_mul];omega
     have H2:=Lib.hid h2;have H3:=Lib.hid h3;have H5:=Lib.hid h5;clear hmul h2 h3 h5;go_wp2_with fail
     go_roundw
     case rel=>
      exact⟨k+1,_,by omega,by go_num,Js (Int.ediv_nonneg (by omega) (by decide)),rV.step h1 H2.out H3.out h4 H5.out QZ (by omega) rfl rfl,dD.setCell (Nat.le_refl _) _⟩
     case measure=>simp[intOf];omega
    ·
     obtain rfl:k=ln ah b:=by omega
     obtain⟨f,h1,h2,h3,h4,h5⟩:=hin;have c2:=h1.cell (i:=i+ln ah b) (by omega);have c3:=h1.frozen (i+ln ah b);have hdone:=rV.done (H:=w.heap.size) (a:=a) (b:=b) (m:=ln ah a+ln ah b) (i:=i) (c:=y) (wr:=wr) ⟨f,h1,h2,h3,h4,h5⟩ (by omega);have HD:=Lib.hid hdone;clear h2 h3 h5 hdone;go_wp2_with fail
     go_roundw
     case rel=>exact⟨i+1,by omega,by go_num,HD.out,dD.setCell (Nat.le_refl _) _⟩
     case measure=>simp[intOf];omega
  ·
   obtain rfl:i=ln ah a:=by omega
   obtain⟨f,h1,h2,h3,h4⟩:=hst;have ht:=fy (some ⟨w.heap.size,0,none⟩) _ (ln ah a+ln ah b) _ wr (h1.rd (Nat.le_refl _) h1.lt) (fun i _=>h2 i) (Nat.le_refl _) (by omega);rw[h3,cL aF] at ht;have HT:=Lib.hid ht;clear ht h2 h3 h4;go_wp2_with fail
   refine HT.out.mono ?_
   rintro e w3 ⟨rfl,rfl,iw,hlc⟩
   go_wp2
   go_ret
   exact⟨_,_,rfl,hlc,iw,aV⟩
end
section
open Go.RowKit Go.Shelf
attribute [local go_sem] Oper.semAt_some

abbrev Bd (b:Nat):={x:Nat//x<b}
def dn (b:Nat)(f:Nat->Nat)(hf:∀i,f i<b)(n k:Nat):List (Bd b):=(List.range k).map fun j=>⟨f (n-1-j),hf _⟩
theorem zE (b:Nat)(f:Nat->Nat)(hf:∀i,f i<b)(n k:Nat):dn b f hf n (k+1)=dn b f hf n k++ [⟨f (n-1-k),hf _⟩]:=by simp[dn,List.range_succ]
theorem J8 (b:Nat)(f:Nat->Nat)(hf:∀i,f i<b)(n k:Nat):(dn b f hf n k).length=k:=by simp[dn]
def pU (B:Nat){b:Nat}(l:List (Bd b)):Nat:=l.foldl (fun s x=>s*B+x.1) 0
theorem qW (B:Nat){b:Nat}(l:List (Bd b))(x:Bd b):pU B (l++ [x])=pU B l*B+x.1:=by simp[pU]
theorem Vk (B b:Nat)(f:Nat->Nat)(hf:∀i,f i<b)(n k:Nat)(hk:k<=n):pU B (dn b f hf n k)=vs B (fun i=>f (n-k+i)) k:=by
 induction k with
 |zero=>rfl
 |succ k ih=>
  rw[zE,qW,ih (by omega),uk,Nat.mul_comm,Nat.add_comm]
  congr 1
  ·rw[show n-1-k=n-(k+1)+0 by omega]
  ·
   congr 1
   exact ei fun i _=>by rw[show n-k+i=n-(k+1)+(i+1) by omega]
theorem Qc (B b:Nat)(f:Nat->Nat)(hf:∀i,f i<b)(n:Nat):pU B (dn b f hf n n)=vs B f n:=by
 rw[Vk B b f hf n n (Nat.le_refl _)]
 exact ei fun i _=>by rw[Nat.sub_self,Nat.zero_add]
theorem Vl {B b:Nat}(hb:b<=B)(l:List (Bd b)):pU B l<B^l.length:=by
 rw[<-List.reverse_reverse l];generalize l.reverse=m
 induction m with
 |nil=>simp[pU]
 |cons x m ih=>
  rw[List.reverse_cons,qW,List.length_append,List.length_singleton,Nat.pow_succ];have h1:(pU B m.reverse+1)*B<=B^m.reverse.length*B:=Nat.mul_le_mul_right _ ih;have h2:=x.2;rw[Nat.add_mul,Nat.one_mul] at h1;omega

def sL (n₀ Bs:Nat)(W W':World):Prop:=Below n₀ W W'/\W'.heap[Bs]?=W.heap[Bs]?
theorem sL.t {n₀ Bs:Nat}{A B C:World}(h:sL n₀ Bs A B)(k:sL n₀ Bs B C):sL n₀ Bs A C:=⟨h.1.trans k.1,k.2.trans h.2⟩
theorem sL.b {n₀ Bs:Nat}{w:World}(hn:n₀<=w.heap.size)(hB:Bs<w.heap.size)(W:World)(l:Nat)(o o':Obj)(hl:w.heap.size<=l)(h:W.heap[l]?=some o)(h1:o.isCells=false)(h2:o.isWalk=false):sL n₀ Bs W (W.putObj l o'):=
 ⟨belowK_b hn W l o o' hl h h1 h2,World.putObj_heap_other (by omega)⟩
theorem sL.cell {n₀ Bs:Nat}{W W':World}(h:sL n₀ Bs W W'):W'.cell? ⟨Bs,0,none⟩=W.cell? ⟨Bs,0,none⟩:=World.cell?_of_block (w:=W) h.2

theorem Qd (F:Fence)(m:Nat)(hg:F.fn 206)(hro:F.round=none)(hm:1<=m)(l Bs n₀ n c:Nat)(A:Option Addr)(f:Nat->Nat)(hf:∀i,f i<4294967296)(hn:n<=1000000)(J Jx:List (Bd 4294967296)->World->Prop)
  (hY:∀pre x W,J pre W->pre.length<n->YieldAt F (m-1) Tryz.prog l #[.int .u32 ((x:Bd 4294967296).1:Int)] W fun e W'=>
   (e= .returned (.bool true)/\J (pre++ [x]) W'/\sL n₀ Bs W W')\/(e= .returned (.bool false)/\Jx (pre++ [x]) W'))
  (W:World) (Fp:W.cell? ⟨Bs,0,none⟩=some (.slice A n c)) (hc:Rd n₀ .u32 W A n f) (h0:J [] W):
  CallsIn F m Tryz.prog 206 #[.func (.yield l) #[] #[],.pointer (some ⟨Bs,0,none⟩)] W fun e W'=>(∃v,e= .returned v)/\
   ((∃ys,ys=dn 4294967296 f hf n n/\J ys W')\/(∃pre,(∃k,k<=n/\pre=dn 4294967296 f hf n k)/\Jx pre W')):=by
 refine callsIn_of_wp Tryz.func206 rfl hg ?_ hro;simp only[Tryz.ntmps206,List.size_toArray,List.length_cons,List.length_nil,Nat.reduceAdd,Nat.reduceSub,Array.replicate_succ,Array.replicate_zero,List.push_toArray,List.append_toArray,List.nil_append,List.cons_append]
 gi_wp2
 gi_loopw [3] (fun i wr=>∃k:Nat,k<=n/\i= .int .i64 ((n:Int)-k-1)/\J (dn 4294967296 f hf n k) wr/\sL n₀ Bs W wr)
  (fun i _=>(intOf i+1).toNat)
 case atStart=>exact⟨0,Nat.zero_le _,by simp,h0,Below.refl _ _,rfl⟩
 case round=>
  obtain⟨k,hk,rfl,hJs,hnx⟩:=hrel;have hbs:=hnx.cell.trans Fp
  by_cases hlt:k<n
  ·
   obtain⟨b,o,rfl,hb,vB⟩:=hc (by omega);obtain⟨fn,tmps,assign,body,hy,hR⟩:=hY _ (⟨f (n-1-k),hf _⟩) wr hJs (by rw[J8];exact hlt)
   dsimp only at hy
   have hcx:=(hnx.1.cell (p:=⟨b,o+(n-1-k),none⟩) hb).trans (vB (n-1-k) (by omega))
   have ek:((n:Int)-k-1)=((n-1-k:Nat):Int):=by omega
   rw[ek];clear ek
   gi_wp2
   refine hR.mono ?_
   rintro e W3 (⟨rfl,JO,hk3⟩|⟨rfl,aaX⟩)
   ·
    have aqX:=hk3.cell.trans hbs
    gi_wp2
    go_roundw
    case rel=>exact⟨k+1,by omega,by congr 1;omega,by rw[zE];exact JO,hnx.t hk3⟩
    case measure=>simp[intOf]<;>omega
   ·
    gi_wp2
    refine bodyPost_ret (results_none rfl _ _ _) rfl ?_;exact⟨⟨_,rfl⟩,.inr ⟨_,⟨k+1,by omega,(zE ..).symm⟩,aaX⟩⟩
  ·
   obtain rfl:k=n:=by omega
   rw[show(k:Int)-k-1=-1 by omega]
   gi_wp2
   go_end0
   exact⟨⟨_,rfl⟩,.inl ⟨_,rfl,hJs⟩⟩

theorem Vm (F:Fence)(m:Nat)(hg:F.fn 200)(hro:F.round=none)(a:Option Addr)(len cap:Nat)(w:World):
  CallsIn F m Tryz.prog 200 #[.slice a len cap] w fun e w'=>e= .returned (.func (.func 206) #[] #[.pointer (some ⟨w.heap.size,0,none⟩)])/\w'=w.alloc (.cells #[.slice a len cap] 149):=by
 refine callsIn_of_wp Tryz.func200 rfl hg ?_ hro;simp only[Tryz.ntmps200,List.size_toArray,List.length_cons,List.length_nil,Nat.reduceAdd,Nat.reduceSub,Array.replicate_succ,Array.replicate_zero,List.push_toArray,List.append_toArray,List.nil_append,List.cons_append]
 gi_wp2
 go_ret
 exact⟨rfl,rfl⟩

theorem FC (F:Fence)(m:Nat)(hg:F.fn 206)(hro:F.round=none)(hm:1<=m)(Bs n₀ n c:Nat)(A:Option Addr)(f:Nat->Nat)(hf:∀i,f i<4294967296)(hn:n<=1000000)(w:World)(Fp:Bs<w.heap.size)(hn₀:n₀<=w.heap.size)
  (hc:w.cell? ⟨Bs,0,none⟩=some (.slice A n c)) (hI:Rd n₀ .u32 w A n f):
  SeqStopsK F m Tryz.prog 206 #[.pointer (some ⟨Bs,0,none⟩)] (fun x:Bd 4294967296=>#[Value.int .u32 (x.1:Int)]) (sL n₀ Bs) (fun ys=>ys=dn 4294967296 f hf n n) (fun pre=>∃k,k<=n/\pre=dn 4294967296 f hf n k) n w:=fun l J Jx W hW _ _ hY h0=>by
 have hc':=(hW.cell (p:=⟨Bs,0,none⟩) Fp).trans hc;exact Qd F m hg hro hm l Bs n₀ n c A f hf hn J Jx hY W hc' (hI.below (hW.mono hn₀)) h0

theorem J9 (A:Option Addr)(n c:Nat)(f:Nat->Nat)(hf:∀i,f i<4294967296)(w:World)(hx:Rd w.heap.size .u32 w A n f)(hn:n<=2):
  Calls Tryz.prog 190 #[.slice A n c] w fun e w'=>e= .returned (.int .u64 ((vs ah f n:Nat):Int))/\Below w.heap.size w w':=by
 refine(callsIn_wide (n:=5)).1 ?_;have hro:Fence.wide.round=none:=rfl;refine callsIn_of_wp_marks Tryz.func190 rfl trivial ?_ hro;simp only[Tryz.ntmps190,List.size_toArray,List.length_cons,List.length_nil,Nat.reduceAdd,Nat.reduceSub,Array.replicate_succ,Array.replicate_zero,List.push_toArray,List.append_toArray,List.nil_append,List.cons_append]
 gi_wp2_with (refine⟨trivial, ?_⟩;gi_at_call 200;refine(Vm Fence.wide (5-1) trivial hro _ _ _ _).mono ?_;rintro e w' ⟨rfl,rfl⟩)
 have bS:=Boxed.new w 142 (.int .u64 0);have bN:=Boxed.new (w.alloc (.cells #[.int .u64 0] 142)) 149 (.slice A n c);rw[World.size_alloc] at bN;have JT:Below w.heap.size w ((w.alloc (.cells #[.int .u64 0] 142)).alloc (.cells #[.slice A n c] 149)):=((Below.refl _ w).alloc (Nat.le_refl _) _).alloc (by simp) _
 refine wpIn_rangeFunc_ownG hro (by decide) (gf:= 206) (lb:=#[.pointer (some ⟨w.heap.size+1,0,none⟩)]) rfl trivial (enters_of Tryz.func206 (by kernel_rfl) rfl)
  (FC Fence.wide (5-1) trivial hro (by decide) (w.heap.size+1) w.heap.size n c A f hf (by omega) _ (by simp) (by simp;omega) bN.cell (hx.below JT)) sL.t (sL.b (by simp;omega) (by simp)) (Below.refl _ _) (fun _=>rfl)
  (fun pre W=>(W.cell? ⟨w.heap.size,0,none⟩=some (.int .u64 ((pU ah pre:Nat):Int))/\W.frozen? ⟨w.heap.size,0,none⟩=false)/\Below w.heap.size w W)
  (fun _ _ _=>False)
  (OwnFrom.and (Own.from (fun s A B row hs hg hr=>⟨cell_kept hs.1 hg hr,(frozen_kept hs.1 hg hr).trans hs.2⟩) _) (ownFrom_below (Nat.le_refl _) (by simp;omega)))
  (fun _ _ _ _ _ hs _ _=>hs)
  ⟨⟨(bS.alloc _).cell,(bS.alloc _).frozen⟩,JT⟩
  (fun x=>{tmps:=#[.slice A n c,undef,.int .u64 0,.pointer (some ⟨w.heap.size,0,none⟩),.int .u32 (x.1:Int),.slice A n c,.func (.func 206) #[] #[.pointer (some ⟨w.heap.size+1,0,none⟩)],.int .u32 (x.1:Int),undef,undef,undef,undef,undef,undef],defers:=[]}) ?assign ?body ?done ?stop
 case assign=>
  intro l x W K hK
  gi_wp2
  exact hK
 case body=>
  rintro l pre x W ⟨⟨hc,hf⟩,hB⟩ hl
  have h1:=Vl (B:=ah) (b:=4294967296) (Nat.le_refl _) pre;have hv:pU ah pre<4294967296:=Nat.lt_of_lt_of_le h1 (Nat.pow_le_pow_right (by decide) (show pre.length<=1 by omega));have h2:=x.2;have o1:=iu hv h2
  obtain⟨X,hX⟩:∃X,X=4294967296*pU ah pre+x.1:=⟨_,rfl⟩
  rw[<-hX,show((4294967296*pU ah pre:Nat):Int)=(pU ah pre:Int)*4294967296 by omega] at o1;have HX:=Lib.hid hX;clear hX h1
  gi_wp2
  refine⟨(KeepsOthers.setCell _ _ _).from _,⟨(Below.refl w.heap.size W).setCell (p:=⟨w.heap.size,0,none⟩) (Nat.le_refl _) _,Below.heap_setCell _ _ _ _ (by simp)⟩,⟨?_,by rw[World.frozen?_setCell];exact hf⟩,hB.setCell (p:=⟨w.heap.size,0,none⟩) (Nat.le_refl _) _⟩
  have e:pU ah (pre++ [x])=X:=by rw[qW,HX.out,Nat.mul_comm];rfl
  rw[e];exact World.cell?_setCell_same' _ _ _ (by rw[hc];rfl)
 case done=>
  rintro D ys W hD rfl ⟨⟨hc,_⟩,hB⟩ hK
  rw[Qc] at hc
  gi_wp2
  refine⟨by simp,.inl ⟨_,_,rfl,run_takeDeferred hK, ?_⟩⟩;exact⟨_,results_tmp rfl _ _ _,rfl,hB.trans (belowK_b (w:=w) (Nat.le_refl _) W D _ _ (by simp at hD;omega) hK rfl rfl)⟩
 case stop=>
  rintro D c pre W _ _ h _
  exact h.elim
theorem DI (A:Option Addr)(c x:Nat)(w:World)(hx:aL w A x)(hn:ln ah x<=2):
  Calls Tryz.prog 190 #[.slice A (ln ah x) c] w fun e w'=>e= .returned (.int .u64 ((x:Nat):Int))/\Below w.heap.size w w':=by
 have h:=J9 A (ln ah x) c (aB ah x) (fun i=>aP x i) w hx hn;rw[cL aF] at h;exact h
end
end Go.Proofs.YtclbiihcbfnjmaaGreat
