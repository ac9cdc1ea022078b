/-
  Parts.
-/
import Derived.Test.YtclbiihcbfnjmaaGreatK1
import Derived.RangeFuncNested
import Derived.RangeFuncBound
import Derived.Shelf.RegionOpen
import Derived.OwnWalkIn
import Derived.LoopNIn
import Derived.LoopIn
namespace Go.Proofs.YtclbiihcbfnjmaaGreat
abbrev eC:=@_root_.Go.CallsIn.inRound
abbrev rD:=@_root_.Go.World.putObj_heap_other
end Go.Proofs.YtclbiihcbfnjmaaGreat
set_option maxHeartbeats 2000000
set_option maxRecDepth 100000
namespace Go.Proofs.YtclbiihcbfnjmaaGreat
section
open Go.RowKit

def Kj (H a b m i:Nat)(wr:World):Prop:=∃f:Nat->Nat,Row wr H 171 .u32 m m f/\(∀j,f j<4294967296)/\vs ah f m=vs ah (aB ah a) i*b/\∀j,i+ln ah b<=j->f j=0
def ue (H a b m i k c:Nat)(wr:World):Prop:=∃f:Nat->Nat,Row wr H 171 .u32 m m f/\(∀j,f j<4294967296)/\vs ah f m+ah^(i+k)*c=vs ah (aB ah a) i*b+ah^i*(aB ah a i*vs ah (aB ah b) k)/\c<4294967296/\∀j,i+ln ah b<=j->f j=0

theorem Kj.inner {H a b m i:Nat}{wr:World}(h:Kj H a b m i wr):ue H a b m i 0 0 wr:=by
 obtain⟨f,h1,h2,h3,h4⟩:=h;exact⟨f,h1,h2,by simpa [vs] using h3,by decide,h4⟩
theorem ue.step {H a b m i k c:Nat}{wr:World}{f:Nat->Nat}(h1:Row wr H 171 .u32 m m f)(h2:∀j,f j<4294967296)
  (h3:vs ah f m+ah^(i+k)*c=vs ah (aB ah a) i*b+ah^i*(aB ah a i*vs ah (aB ah b) k)) (h4:c<4294967296) (h5:∀j,i+ln ah b<=j->f j=0)
  (hk:k<ln ah b) (hm:i+ln ah b<m) {u v:Int} (hu:u=((aB ah a i:Nat):Int)*(aB ah b k:Nat)+(f (i+k):Nat)+(c:Nat)) (hv:v=u%4294967296):
  ue H a b m i (k+1) ((u/4294967296).toNat) (wr.setCell ⟨H,i+k,none⟩ (.int .u32 v)):=by
 have e:u=((aB ah a i*aB ah b k+f (i+k)+c:Nat):Int):=by rw[hu,Int.natCast_add,Int.natCast_add,cM]
 have hp:=fG (aV a i) (aV b k);have hf:=h2 (i+k)
 have ev:v=(((aB ah a i*aB ah b k+f (i+k)+c)%ah:Nat):Int):=by rw[hv,e];rfl
 have et:(u/4294967296).toNat=(aB ah a i*aB ah b k+f (i+k)+c)/ah:=by rw[e];rfl
 rw[ev,et];refine⟨fun j=>if j=i+k then(aB ah a i*aB ah b k+f (i+k)+c)%ah else f j,h1.set (by simp) fun j _ hj=>by simp[hj],fun j=> ?_, ?_, ?_,fun j hj=> ?_⟩
 ·
  by_cases hj:j=i+k
  ·simp only[hj,if_true];exact bK _ (by decide)
  ·simp only[hj,if_false];exact h2 j
 ·
  rw[bz ah (aB ah b) k];exact Ry (by omega) (fun j _ hj=>by simp[hj]) (by simp) h3
 ·
  rw[eX (by decide)];show _<4294967296*4294967296;omega
 ·simp only[show¬j=i+k by omega,if_false];exact h5 j hj
theorem ue.done {H a b m i c:Nat}{wr:World}(h:ue H a b m i (ln ah b) c wr)(hm:i+ln ah b<m):Kj H a b m (i+1) (wr.setCell ⟨H,i+ln ah b,none⟩ (.int .u32 (c:Int))):=by
 obtain⟨f,h1,h2,h3,h4,h5⟩:=h;refine⟨fun j=>if j=i+ln ah b then c else f j,h1.set (by simp) fun j _ hj=>by simp[hj],fun j=> ?_, ?_,fun j hj=> ?_⟩
 ·
  by_cases hj:j=i+ln ah b
  ·simp only[hj,if_true];exact h4
  ·simp only[hj,if_false];exact h2 j
 ·
  have hs:=Bt (B:=ah) (f:=f) (g:=fun j=>if j=i+ln ah b then c else f j) hm fun j _ hj=>by simp[hj]
  rw[dB aE] at h3;rw[h5 _ (aq _)] at hs;simp only[if_true] at hs;rw[bz,en,cA,<-h3];omega
 ·simp only[show¬j=i+ln ah b by omega,if_false];exact h5 j (by omega)

theorem Ml (A B:Option Addr)(c d a b:Nat)(w:World)(ha:aO w A a)(hb:aO w B b)(hn:ln ah a<=1000000)(hm:ln ah b<=1000000):
  Calls Tryz.prog 158 #[.slice A (ln ah a) c,.slice B (ln ah b) d] w (TM w (a*b)):=by
 have hmk:=Ei (ln ah a+ln ah b) (ln ah a+ln ah b) (aq _) (by omega);rw[show((ln ah a+ln ah b:Nat):Int)=(ln ah a:Int)+ln ah b by omega] at hmk
 go_enter Tryz.func158,Tryz.ntmps158
 go_wp2
 clear hmk
 go_loopw [20] (fun i wr=>∃k:Nat,k<=ln ah a/\i= .int .i64 k/\Kj w.heap.size a b (ln ah a+ln ah b) k wr/\Below w.heap.size w wr) (fun i _=>ln ah a-(intOf i).toNat)
 case atStart=>exact⟨0,bF _,rfl,⟨fun _=>0,Row.made,fun _=>by show(0:Nat)<4294967296;decide,by rw[rj fun _ _=>rfl];simp[vs],fun _ _=>rfl⟩,(aU _ _).alloc (aq _) _⟩
 case round=>
  obtain⟨i,hi,rfl,hst,bh⟩:=hrel
  by_cases hlt:i<ln ah a
  ·
   obtain⟨p,q,rfl,hp,hca⟩:=ha (by omega);have c0:=(bh.cell (p:=⟨p,q+i,none⟩) hp).trans (hca i hlt);have hxi:=aV a i
   obtain⟨wo,rfl⟩:∃wo:World,wo=wr:=⟨_,rfl⟩
   go_wp2_with fail
   go_loopw [8,27] (fun cy j wr=>∃k y:Nat,k<=ln ah b/\j= .int .i64 k/\cy= .int .u64 (y:Int)/\ue w.heap.size a b (ln ah a+ln ah b) i k y wr/\Below w.heap.size w wr) (fun _ j _=>ln ah b-(intOf j).toNat)
   case atStart=>exact⟨0,0,bF _,rfl,rfl,hst.inner,bh⟩
   case round=>
    obtain⟨k,y,hk,rfl,rfl,hin,dS⟩:=hrel
    by_cases WT:k<ln ah b
    ·
     obtain⟨p',q',rfl,hp',hcb⟩:=hb (by omega);have c1:=(dS.cell (p:=⟨p',q'+k,none⟩) hp').trans (hcb k WT);obtain⟨f,h1,h2,h3,h4,h5⟩:=hin;have c2:=h1.cell (i:=i+k) (by omega);have c3:=h1.frozen (i+k);have hyk:=aV b k;have hf:=h2 (i+k);have hmul:=fG hxi hyk
     have arb:((aB ah a i:Nat):Int)*(aB ah b k:Nat)<=18446744065119617025:=by rw[<-cM];omega
     have arc:0<=((aB ah a i:Nat):Int)*(aB ah b k:Nat):=by rw[<-cM];omega
     have H2:=af h2;have H3:=af h3;have H5:=af h5;clear hmul h2 h3 h5;go_wp2_with fail
     go_roundw
     case rel=>
      exact⟨k+1,_,by omega,by go_num,Lt (Int.ediv_nonneg (by omega) (by decide)),ue.step h1 H2.out H3.out h4 H5.out WT (by omega) rfl rfl,dS.setCell (aq _) _⟩
     case measure=>simp[intOf];omega
    ·
     obtain rfl:k=ln ah b:=by omega
     obtain⟨f,h1,h2,h3,h4,h5⟩:=hin;have c2:=h1.cell (i:=i+ln ah b) (by omega);have c3:=h1.frozen (i+ln ah b);have hdone:=ue.done (H:=w.heap.size) (a:=a) (b:=b) (m:=ln ah a+ln ah b) (i:=i) (c:=y) (wr:=wr) ⟨f,h1,h2,h3,h4,h5⟩ (by omega);have HD:=af hdone;clear h2 h3 h5 hdone;go_wp2_with fail
     go_roundw
     case rel=>exact⟨i+1,by omega,by go_num,HD.out,dS.setCell (aq _) _⟩
     case measure=>simp[intOf];omega
  ·
   obtain rfl:i=ln ah a:=by omega
   obtain⟨f,h1,h2,h3,h4⟩:=hst;have ht:=gH (some ⟨w.heap.size,0,none⟩) _ (ln ah a+ln ah b) _ wr (h1.rd (aq _) h1.lt) (fun i _=>h2 i) (aq _) (by omega);rw[h3,dB aE] at ht;have HT:=af ht;clear ht h2 h3 h4;go_wp2_with fail
   refine HT.out.mono ?_
   rintro e w3 ⟨rfl,rfl,ia,hlc⟩
   go_wp2
   go_ret
   exact⟨_,_,rfl,hlc,ia,bh⟩
end
section
open Go.RowKit Go.Shelf
attribute [local go_sem] Oper.semAt_some

abbrev Bd (b:Nat):={x:Nat//x<b}
def dn (b:Nat)(f:Nat->Nat)(hf:∀i,f i<b)(n k:Nat):List (Bd b):=(List.range k).map fun j=>⟨f (n-1-j),hf _⟩
theorem Ch (b:Nat)(f:Nat->Nat)(hf:∀i,f i<b)(n k:Nat):dn b f hf n (k+1)=dn b f hf n k++ [⟨f (n-1-k),hf _⟩]:=by simp[dn,List.range_succ]
theorem Mm (b:Nat)(f:Nat->Nat)(hf:∀i,f i<b)(n k:Nat):(dn b f hf n k).length=k:=by simp[dn]
def rK (B:Nat){b:Nat}(l:List (Bd b)):Nat:=l.foldl (fun s x=>s*B+x.1) 0
theorem sY (B:Nat){b:Nat}(l:List (Bd b))(x:Bd b):rK B (l++ [x])=rK B l*B+x.1:=by simp[rK]
theorem Yz (B b:Nat)(f:Nat->Nat)(hf:∀i,f i<b)(n k:Nat)(hk:k<=n):rK B (dn b f hf n k)=vs B (fun i=>f (n-k+i)) k:=by
 induction k with
 |zero=>rfl
 |succ k ih=>
  rw[Ch,sY,ih (by omega),vT,bC,Nat.add_comm]
  congr 1
  ·rw[show n-1-k=n-(k+1)+0 by omega]
  ·
   congr 1
   exact fo fun i _=>by rw[show n-k+i=n-(k+1)+(i+1) by omega]
theorem Td (B b:Nat)(f:Nat->Nat)(hf:∀i,f i<b)(n:Nat):rK B (dn b f hf n n)=vs B f n:=by
 rw[Yz B b f hf n n (aq _)]
 exact fo fun i _=>by rw[Nat.sub_self,fk]
theorem YA {B b:Nat}(hb:b<=B)(l:List (Bd b)):rK B l<B^l.length:=by
 rw[<-List.reverse_reverse l];generalize l.reverse=m
 induction m with
 |nil=>simp[rK]
 |cons x m ih=>
  rw[List.reverse_cons,sY,List.length_append,List.length_singleton,cF];have h1:(rK B m.reverse+1)*B<=B^m.reverse.length*B:=dV _ ih;have h2:=x.2;rw[en,fI] at h1;omega

def uB (n₀ Bs:Nat)(W W':World):Prop:=Below n₀ W W'/\W'.heap[Bs]?=W.heap[Bs]?
theorem uB.t {n₀ Bs:Nat}{A B C:World}(h:uB n₀ Bs A B)(k:uB n₀ Bs B C):uB n₀ Bs A C:=⟨h.1.trans k.1,k.2.trans h.2⟩
theorem uB.b {n₀ Bs:Nat}{w:World}(hn:n₀<=w.heap.size)(hB:Bs<w.heap.size)(W:World)(l:Nat)(o o':Obj)(hl:w.heap.size<=l)(h:W.heap[l]?=some o)(h1:o.isCells=false)(h2:o.isWalk=false):uB n₀ Bs W (W.putObj l o'):=
 ⟨belowK_b hn W l o o' hl h h1 h2,rD (by omega)⟩
theorem uB.cell {n₀ Bs:Nat}{W W':World}(h:uB n₀ Bs W W'):W'.cell? ⟨Bs,0,none⟩=W.cell? ⟨Bs,0,none⟩:=World.cell?_of_block (w:=W) h.2

theorem Te (F:Fence)(m:Nat)(hg:F.fn 206)(hro:F.round=none)(hm:1<=m)(l Bs n₀ n c:Nat)(A:Option Addr)(f:Nat->Nat)(hf:∀i,f i<4294967296)(hn:n<=1000000)(J Jx:List (Bd 4294967296)->World->Prop)
  (hY:∀pre x W,J pre W->pre.length<n->YieldAt F (m-1) Tryz.prog l #[.int .u32 ((x:Bd 4294967296).1:Int)] W fun e W'=>
   (e= .returned (.bool true)/\J (pre++ [x]) W'/\uB n₀ Bs W W')\/(e= .returned (.bool false)/\Jx (pre++ [x]) W'))
  (W:World) (Hf:W.cell? ⟨Bs,0,none⟩=some (.slice A n c)) (hc:Rd n₀ .u32 W A n f) (h0:J [] W):
  CallsIn F m Tryz.prog 206 #[.func (.yield l) #[] #[],.pointer (some ⟨Bs,0,none⟩)] W fun e W'=>(∃v,e= .returned v)/\
   ((∃ys,ys=dn 4294967296 f hf n n/\J ys W')\/(∃pre,(∃k,k<=n/\pre=dn 4294967296 f hf n k)/\Jx pre W')):=by
 refine callsIn_of_wp Tryz.func206 rfl hg ?_ hro;simp only[Tryz.ntmps206,List.size_toArray,mS,List.length_nil,Nat.reduceAdd,Nat.reduceSub,Array.replicate_succ,Array.replicate_zero,List.push_toArray,List.append_toArray,List.nil_append,List.cons_append]
 gi_wp2
 gi_loopw [3] (fun i wr=>∃k:Nat,k<=n/\i= .int .i64 ((n:Int)-k-1)/\J (dn 4294967296 f hf n k) wr/\uB n₀ Bs W wr)
  (fun i _=>(intOf i+1).toNat)
 case atStart=>exact⟨0,bF _,by simp,h0,aU _ _,rfl⟩
 case round=>
  obtain⟨k,hk,rfl,hJs,hnx⟩:=hrel;have hbs:=hnx.cell.trans Hf
  by_cases hlt:k<n
  ·
   obtain⟨b,o,rfl,hb,xG⟩:=hc (by omega);obtain⟨fn,tmps,assign,body,hy,hR⟩:=hY _ (⟨f (n-1-k),hf _⟩) wr hJs (by rw[Mm];exact hlt)
   dsimp only at hy
   have hcx:=(hnx.1.cell (p:=⟨b,o+(n-1-k),none⟩) hb).trans (xG (n-1-k) (by omega))
   have ek:((n:Int)-k-1)=((n-1-k:Nat):Int):=by omega
   rw[ek];clear ek
   gi_wp2
   refine hR.mono ?_
   rintro e W3 (⟨rfl,LQ,hk3⟩|⟨rfl,adT⟩)
   ·
    have as0:=hk3.cell.trans hbs
    gi_wp2
    go_roundw
    case rel=>exact⟨k+1,by omega,by congr 1;omega,by rw[Ch];exact LQ,hnx.t hk3⟩
    case measure=>simp[intOf]<;>omega
   ·
    gi_wp2
    refine aK (iR rfl _ _ _) rfl ?_;exact⟨⟨_,rfl⟩,.inr ⟨_,⟨k+1,by omega,(Ch ..).symm⟩,adT⟩⟩
  ·
   obtain rfl:k=n:=by omega
   rw[show(k:Int)-k-1=-1 by omega]
   gi_wp2
   go_end0
   exact⟨⟨_,rfl⟩,.inl ⟨_,rfl,hJs⟩⟩

theorem YB (F:Fence)(m:Nat)(hg:F.fn 200)(hro:F.round=none)(a:Option Addr)(len cap:Nat)(w:World):
  CallsIn F m Tryz.prog 200 #[.slice a len cap] w fun e w'=>e= .returned (.func (.func 206) #[] #[.pointer (some ⟨w.heap.size,0,none⟩)])/\w'=w.alloc (.cells #[.slice a len cap] 149):=by
 refine callsIn_of_wp Tryz.func200 rfl hg ?_ hro;simp only[Tryz.ntmps200,List.size_toArray,mS,List.length_nil,Nat.reduceAdd,Nat.reduceSub,Array.replicate_succ,Array.replicate_zero,List.push_toArray,List.append_toArray,List.nil_append,List.cons_append]
 gi_wp2
 go_ret
 exact⟨rfl,rfl⟩

theorem Ia (F:Fence)(m:Nat)(hg:F.fn 206)(hro:F.round=none)(hm:1<=m)(Bs n₀ n c:Nat)(A:Option Addr)(f:Nat->Nat)(hf:∀i,f i<4294967296)(hn:n<=1000000)(w:World)(Hf:Bs<w.heap.size)(hn₀:n₀<=w.heap.size)
  (hc:w.cell? ⟨Bs,0,none⟩=some (.slice A n c)) (hI:Rd n₀ .u32 w A n f):
  SeqStopsK F m Tryz.prog 206 #[.pointer (some ⟨Bs,0,none⟩)] (fun x:Bd 4294967296=>#[Value.int .u32 (x.1:Int)]) (uB n₀ Bs) (fun ys=>ys=dn 4294967296 f hf n n) (fun pre=>∃k,k<=n/\pre=dn 4294967296 f hf n k) n w:=fun l J Jx W hW _ _ hY h0=>by
 have hc':=(hW.cell (p:=⟨Bs,0,none⟩) Hf).trans hc;exact Te F m hg hro hm l Bs n₀ n c A f hf hn J Jx hY W hc' (hI.below (hW.mono hn₀)) h0

theorem Mn (A:Option Addr)(n c:Nat)(f:Nat->Nat)(hf:∀i,f i<4294967296)(w:World)(hx:Rd w.heap.size .u32 w A n f)(hn:n<=2):
  Calls Tryz.prog 190 #[.slice A n c] w fun e w'=>e= .returned (.int .u64 ((vs ah f n:Nat):Int))/\Below w.heap.size w w':=by
 refine(cG (n:=5)).1 ?_;have hro:Fence.wide.round=none:=rfl;refine callsIn_of_wp_marks Tryz.func190 rfl trivial ?_ hro;simp only[Tryz.ntmps190,List.size_toArray,List.length_cons,List.length_nil,Nat.reduceAdd,Nat.reduceSub,Array.replicate_succ,Array.replicate_zero,List.push_toArray,List.append_toArray,List.nil_append,List.cons_append]
 gi_wp2_with (refine⟨trivial, ?_⟩;gi_at_call 200;refine(YB Fence.wide (5-1) trivial hro _ _ _ _).mono ?_;rintro e w' ⟨rfl,rfl⟩)
 have bS:=Boxed.new w 142 (.int .u64 0);have bN:=Boxed.new (w.alloc (.cells #[.int .u64 0] 142)) 149 (.slice A n c);rw[fe] at bN;have LX:Below w.heap.size w ((w.alloc (.cells #[.int .u64 0] 142)).alloc (.cells #[.slice A n c] 149)):=((aU _ w).alloc (aq _) _).alloc (by simp) _
 refine wpIn_rangeFunc_ownG hro (by decide) (gf:= 206) (lb:=#[.pointer (some ⟨w.heap.size+1,0,none⟩)]) rfl trivial (enters_of Tryz.func206 (by kernel_rfl) rfl)
  (Ia Fence.wide (5-1) trivial hro (by decide) (w.heap.size+1) w.heap.size n c A f hf (by omega) _ (by simp) (by simp;omega) bN.cell (hx.below LX)) uB.t (uB.b (by simp;omega) (by simp)) (aU _ _) (fun _=>rfl)
  (fun pre W=>(W.cell? ⟨w.heap.size,0,none⟩=some (.int .u64 ((rK ah pre:Nat):Int))/\W.frozen? ⟨w.heap.size,0,none⟩=false)/\Below w.heap.size w W)
  (fun _ _ _=>False)
  (OwnFrom.and (Own.from (fun s A B row hs hg hr=>⟨cell_kept hs.1 hg hr,(frozen_kept hs.1 hg hr).trans hs.2⟩) _) (ownFrom_below (aq _) (by simp;omega)))
  (fun _ _ _ _ _ hs _ _=>hs)
  ⟨⟨(bS.alloc _).cell,(bS.alloc _).frozen⟩,LX⟩
  (fun x=>{tmps:=#[.slice A n c,undef,.int .u64 0,.pointer (some ⟨w.heap.size,0,none⟩),.int .u32 (x.1:Int),.slice A n c,.func (.func 206) #[] #[.pointer (some ⟨w.heap.size+1,0,none⟩)],.int .u32 (x.1:Int),undef,undef,undef,undef,undef,undef],defers:=[]}) ?assign ?body ?done ?stop
 case assign=>
  intro l x W K hK
  gi_wp2
  exact hK
 case body=>
  rintro l pre x W ⟨⟨hc,hf⟩,hB⟩ hl
  have h1:=YA (B:=ah) (b:=4294967296) (aq _) pre;have hv:rK ah pre<4294967296:=bY h1 (jH (by decide) (show pre.length<=1 by omega));have h2:=x.2;have o1:=jm hv h2
  obtain⟨X,hX⟩:∃X,X=4294967296*rK ah pre+x.1:=⟨_,rfl⟩
  rw[<-hX,show((4294967296*rK ah pre:Nat):Int)=(rK ah pre:Int)*4294967296 by omega] at o1;have HX:=af hX;clear hX h1
  gi_wp2
  refine⟨(KeepsOthers.setCell _ _ _).from _,⟨(aU w.heap.size W).setCell (p:=⟨w.heap.size,0,none⟩) (aq _) _,dL _ _ _ _ (by simp)⟩,⟨?_,by rw[World.frozen?_setCell];exact hf⟩,hB.setCell (p:=⟨w.heap.size,0,none⟩) (aq _) _⟩
  have e:rK ah (pre++ [x])=X:=by rw[sY,HX.out,bC];rfl
  rw[e];exact World.cell?_setCell_same' _ _ _ (by rw[hc];rfl)
 case done=>
  rintro D ys W hD rfl ⟨⟨hc,_⟩,hB⟩ hK
  rw[Td] at hc
  gi_wp2
  refine⟨by simp,.inl ⟨_,_,rfl,run_takeDeferred hK, ?_⟩⟩;exact⟨_,results_tmp rfl _ _ _,rfl,hB.trans (belowK_b (w:=w) (aq _) W D _ _ (by simp at hD;omega) hK rfl rfl)⟩
 case stop=>
  rintro D c pre W _ _ h _
  exact h.elim
theorem Fl (A:Option Addr)(c x:Nat)(w:World)(hx:aO w A x)(hn:ln ah x<=2):
  Calls Tryz.prog 190 #[.slice A (ln ah x) c] w fun e w'=>e= .returned (.int .u64 ((x:Nat):Int))/\Below w.heap.size w w':=by
 have h:=Mn A (ln ah x) c (aB ah x) (fun i=>aV x i) w hx hn;rw[dB aE] at h;exact h
end
end Go.Proofs.YtclbiihcbfnjmaaGreat
