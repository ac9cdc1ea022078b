/-
  Parts.
-/
import Derived.WalkSpells
import Derived.Deep.AppendLies
import Derived.Lib.Hide
import Derived.Test.YtclbiihcbfnjmaaGreatProg
import Derived.BigQuiet
import Derived.Lib.ItoaNum
namespace Go.Proofs.YtclbiihcbfnjmaaGreat
abbrev af:=@_root_.Go.Lib.hid
abbrev aq:=@_root_.Nat.le_refl
abbrev ay:=@_root_.Nat.le_trans
abbrev aH:=@_root_.decide_eq_false
abbrev aL:=@_root_.decide_eq_true
abbrev aK:=@_root_.Go.bodyPost_ret
abbrev aU:=@_root_.Go.RowKit.Below.refl
abbrev bV:=@_root_.Int.natAbs_natCast
abbrev bY:=@_root_.Nat.lt_of_lt_of_le
abbrev aY:=@_root_.Nat.mul_add
abbrev cT:=@_root_.Nat.mul_le_mul_left
abbrev bC:=@_root_.Nat.mul_comm
abbrev bG:=@_root_.Nat.le_of_lt
abbrev cL:=@_root_.Go.IntKind.wrap_i64
abbrev cM:=@_root_.Int.natCast_mul
abbrev bF:=@_root_.Nat.zero_le
abbrev dF:=@_root_.Nat.eq_zero_or_pos
abbrev cA:=@_root_.Nat.mul_assoc
abbrev dL:=@_root_.Go.RowKit.Below.heap_setCell
abbrev dV:=@_root_.Nat.mul_le_mul_right
abbrev bM:=@_root_.Nat.pow_pos
abbrev eJ:=@_root_.Nat.div_div_eq_div_mul
abbrev bK:=@_root_.Nat.mod_lt
abbrev cF:=@_root_.Nat.pow_succ
abbrev cG:=@_root_.Go.callsIn_wide
abbrev eX:=@_root_.Nat.div_lt_iff_lt_mul
abbrev eH:=@_root_.Nat.lt_of_le_of_lt
abbrev ei:=@_root_.Go.RowKit.Below.heap_alloc
abbrev cX:=@_root_.Nat.lt_or_ge
abbrev gm:=@_root_.Nat.dvd_mul_left_of_dvd
abbrev dU:=@_root_.Nat.mul_le_mul
abbrev eK:=@_root_.Nat.div_add_mod
abbrev fe:=@_root_.Go.World.size_alloc
abbrev fm:=@_root_.Nat.mod_eq_of_lt
abbrev dK:=@_root_.Nat.pow_add
abbrev dP:=@_root_.Nat.mul_pos
abbrev eU:=@_root_.Go.heap_alloc_new
abbrev gh:=@_root_.beq_eq_false_iff_ne
abbrev en:=@_root_.Nat.add_mul
abbrev gU:=@_root_.Go.World.drewN_drewN
abbrev gV:=@_root_.Nat.mul_left_comm
abbrev kj:=@_root_.Nat.le_mul_of_pos_left
abbrev fk:=@_root_.Nat.zero_add
abbrev jH:=@_root_.Nat.pow_le_pow_right
abbrev fB:=@_root_.Nat.dvd_refl
abbrev mM:=@_root_.List.getElem?_eq_some_iff
abbrev iP:=@_root_.Bool.and_eq_true
abbrev gW:=@_root_.Rat.mul_nonneg
abbrev jk:=@_root_.Go.IntKind.wrap_u64
abbrev jl:=@_root_.Int.natCast_ediv
abbrev fI:=@_root_.Nat.one_mul
abbrev fJ:=@_root_.Nat.mul_one
abbrev ke:=@_root_.Go.World.size_setCell
abbrev jI:=@_root_.Nat.div_eq_of_lt
abbrev gj:=@_root_.Nat.succ_mul
abbrev mU:=@_root_.List.mem_cons_of_mem
abbrev jZ:=@_root_.List.all_eq_true
abbrev kn:=@_root_.Nat.gcd_dvd_left
abbrev qh:=@_root_.Array.getElem?_eq_getElem
abbrev kO:=@_root_.of_decide_eq_true
abbrev ji:=@_root_.Nat.dvd_trans
abbrev iR:=@_root_.Go.results_none
abbrev sH:=@_root_.Array.getElem?_setIfInBounds
abbrev jJ:=@_root_.Bool.false_and
abbrev gZ:=@_root_.Go.cell_of_row
abbrev sI:=@_root_.Nat.mul_lt_mul_of_pos_right
abbrev mR:=@_root_.Nat.gcd_dvd_right
abbrev qg:=@_root_.Array.getElem?_toList
abbrev mS:=@_root_.List.length_cons
abbrev mL:=@_root_.Nat.lt_succ_self
abbrev oy:=@_root_.List.mem_cons_self
abbrev ko:=@_root_.Nat.add_zero
abbrev vR:=@_root_.Nat.mul_lt_mul_of_pos_left
abbrev vS:=@_root_.Nat.lt_of_mul_lt_mul_right
abbrev oz:=@_root_.Go.IntKind.wrap_u16
abbrev gn:=@_root_.congrArg
abbrev qf:=@_root_.of_decide_eq_false
abbrev nY:=@_root_.Nat.not_lt_zero
abbrev jK:=@_root_.bne_iff_ne
abbrev kP:=@_root_.Int.add_comm
abbrev ox:=@_root_.List.nodup_cons
abbrev kC:=@_root_.Option.some.inj
abbrev oR:=@_root_.List.mem_map_of_mem
abbrev oQ:=@_root_.Nat.lt_or_gt_of_ne
abbrev jP:=@_root_.Nat.gcd_comm
abbrev mW:=@_root_.Rat.natCast_mul
abbrev qZ:=@_root_.Nat.le_div_iff_mul_le
abbrev kH:=@_root_.Bool.true_and
end Go.Proofs.YtclbiihcbfnjmaaGreat
set_option maxRecDepth 100000
set_option maxHeartbeats 1000000
namespace Go.Proofs.YtclbiihcbfnjmaaGreat

def aB (B x j:Nat):Nat:=x/B^j%B
def vs (B:Nat)(f:Nat->Nat):Nat->Nat
 |0=>0
 |m+1=>vs B f m+B^m*f m
def lnF (B:Nat):Nat->Nat->Nat
 |0,_=>0
 |f+1,x=>if x=0 then 0 else lnF B f (x/B)+1
def ln (B x:Nat):Nat:=lnF B (x.log2+1) x

theorem kI (B:Nat)(f:Nat->Nat):vs B f 0=0:=rfl
theorem bz (B:Nat)(f:Nat->Nat)(m:Nat):vs B f (m+1)=vs B f m+B^m*f m:=rfl
theorem fo {B:Nat}{f g:Nat->Nat}{m:Nat}(h:∀j,j<m->f j=g j):vs B f m=vs B g m:=by
 induction m with
 |zero=>rfl
 |succ m ih=>rw[bz,bz,ih fun j hj=>h j (by omega),h m (by omega)]
theorem rj {B:Nat}{f:Nat->Nat}{m:Nat}(h:∀j,j<m->f j=0):vs B f m=0:=by
 induction m with
 |zero=>rfl
 |succ m ih=>rw[bz,ih fun j hj=>h j (by omega),h m (by omega)];simp
theorem kf {B:Nat}{f:Nat->Nat}{m:Nat}(h:∀j,j<m->f j<B):vs B f m<B^m:=by
 induction m with
 |zero=>simp[vs]
 |succ m ih=>
  have h1:=ih fun j hj=>h j (by omega)
  have h2:=h m (by omega);have h3:B^m*f m<=B^m*(B-1):=cT _ (by omega);have h4:B^m*(B-1)=B^m*B-B^m:=Nat.mul_sub_one ..;have h5:B^m<=B^m*B:=Nat.le_mul_of_pos_right _ (by omega);rw[bz,cF];omega
theorem sJ (B:Nat)(f:Nat->Nat)(m n:Nat):vs B f (m+n)=vs B f m+B^m*vs B (fun j=>f (m+j)) n:=by
 induction n with
 |zero=>simp[vs]
 |succ n ih=>rw[<-Nat.add_assoc,bz,ih,bz,aY,dK,<-cA,Nat.add_assoc]
theorem vT (B:Nat)(f:Nat->Nat)(n:Nat):vs B f (n+1)=f 0+B*vs B (fun j=>f (j+1)) n:=by
 have h:=sJ B f 1 n;rw[Nat.add_comm 1 n] at h;rw[h]
 simp[vs,Nat.add_comm]
theorem GD {B:Nat}(hB:0<B)(x j:Nat):aB B x j<B:=bK _ hB
theorem cU {B x j:Nat}(h:x<B^j):aB B x j=0:=by rw[aB,jI h];simp
theorem GF (B x m:Nat):vs B (aB B x) m=x%B^m:=by
 induction m with
 |zero=>simp[vs,Nat.mod_one]
 |succ m ih=>rw[bz,ih,aB,cF,Nat.mod_mul]
theorem cR {B x m:Nat}(h:x<B^m):vs B (aB B x) m=x:=by rw[GF,fm h]
theorem Rt {B:Nat}{f:Nat->Nat}{m j:Nat}(h:∀i,i<j->f i<B)(hj:j<=m):vs B f m/B^j=vs B (fun i=>f (j+i)) (m-j):=by
 obtain⟨k,rfl⟩:=Nat.le.dest hj;have h1:=kf h;rw[sJ,Nat.add_mul_div_left _ _ (by omega),jI h1,fk,Nat.add_sub_cancel_left]
theorem AZ {B:Nat}{f:Nat->Nat}{m j:Nat}(h:∀i,i<m->f i<B)(hj:j<m):aB B (vs B f m) j=f j:=by
 rw[aB,Rt (fun i hi=>h i (by omega)) (by omega),show m-j=(m-j-1)+1 by omega,vT,Nat.add_mul_mod_self_left];exact fm (h j hj)
theorem Ru {B:Nat}(hB:2<=B):∀f x,x<2^f->∀k,lnF B f x<=k↔x<B^k:=by
 intro f
 induction f with
 |zero=>
  intro x hx k
  have:x=0:=by simpa using hx
  subst this;have:=bM (n:=k) (show 0<B by omega)
  simp[lnF];omega
 |succ f ih=>
  intro x hx k;rw[lnF]
  by_cases h0:x=0
  ·
   subst h0;have:=bM (n:=k) (show 0<B by omega)
   simp;omega
  ·
   rw[if_neg h0]
   have hlt:x/B<2^f:=by
    rw[eX (by omega)];have:=cT (2^f) hB;rw[cF] at hx;omega
   cases k with
   |zero=>simp;omega
   |succ k=>
    have h1:=ih _ hlt k;rw[eX (by omega),<-cF] at h1;rw[<-h1];omega
theorem bJ {B:Nat}(hB:2<=B){x k:Nat}:ln B x<=k↔x<B^k:=Ru hB _ _ Nat.lt_log2_self k
theorem Rv {B:Nat}(hB:2<=B){x k:Nat}:k<ln B x↔B^k<=x:=by have:=bJ hB (x:=x) (k:=k);omega
theorem bt {B:Nat}(hB:2<=B)(x:Nat):x<B^ln B x:=(bJ hB).1 (aq _)
theorem cY {B:Nat}:ln B 0=0:=by simp[ln,lnF]
theorem pV {B:Nat}(hB:2<=B){x:Nat}:ln B x=0↔x=0:=by
 have:=bJ hB (x:=x) (k:=0);simp at this;omega
theorem dM {B:Nat}(hB:2<=B){x:Nat}:0<ln B x↔0<x:=by have:=pV hB (x:=x);omega
theorem cN {B:Nat}(hB:2<=B){x y:Nat}(h:x<=y):ln B x<=ln B y:=(bJ hB).2 (eH h (bt hB y))
theorem yE {B:Nat}(hB:2<=B){x m:Nat}(h1:x<B^m)(h2:m=0\/B^(m-1)<=x):ln B x=m:=by
 have h3:=(bJ hB).2 h1
 rcases h2 with rfl|h2
 ·omega
 ·
  have h4:=(Rv hB).2 h2;omega
theorem dB {B:Nat}(hB:2<=B)(x:Nat):vs B (aB B x) (ln B x)=x:=cR (bt hB x)
theorem mX {B:Nat}(hB:2<=B){x:Nat}(hx:0<x):B^(ln B x-1)<=x:=(Rv hB).1 (by have:=(dM hB).2 hx;omega)
theorem rq {B:Nat}(hB:2<=B){x:Nat}(hx:0<x):aB B x (ln B x-1)≠0:=by
 have h1:=bt hB x;have h2:=mX hB hx;have h3:=(dM hB).2 hx
 have h4:x/B^(ln B x-1)<B:=by
  rw[eX (bM (by omega)),<-Nat.pow_succ'];rw[show(ln B x-1).succ=ln B x by omega];exact h1
 have h5:0<x/B^(ln B x-1):=Nat.div_pos h2 (bM (by omega));rw[aB,fm h4];omega
theorem Rx {B:Nat}(hB:2<=B){f:Nat->Nat}{m:Nat}(h:∀j,j<m->f j<B)(hn:m=0\/f (m-1)≠0):ln B (vs B f m)=m:=by
 refine yE hB (kf h) ?_
 rcases hn with h0|h0
 ·exact .inl h0
 ·
  rcases dF m with hm|hm
  ·exact .inl hm
  ·
   refine .inr ?_;have h1:=bz B f (m-1);rw[show m-1+1=m by omega] at h1;have h2:B^(m-1)*1<=B^(m-1)*f (m-1):=cT _ (by omega);omega
theorem vU {B:Nat}(hB:2<=B){x:Nat}(h0:0<x)(h:x<B):ln B x=1:=yE hB (by simpa using h) (.inr (by simp;omega))
theorem Ws {B x:Nat}(h:x<B):aB B x 0=x:=by simp[aB,Nat.mod_eq_of_lt h]
theorem Wt (B x j:Nat):aB (B*B) x j=aB B x (2*j)+B*aB B x (2*j+1):=by
 have e1:(B*B)^j=B^(2*j):=by rw[Nat.pow_mul,Nat.pow_two]
 rw[aB,aB,aB,e1,Nat.mod_mul,cF,eJ]
theorem adB {B:Nat}(hB:2<=B)(x:Nat):ln (B*B) x=(ln B x+1)/2:=by
 have hBB:2<=B*B:=ay hB (Nat.le_mul_of_pos_right _ (by omega))
 have e1:∀j,(B*B)^j=B^(2*j):=fun j=>by rw[Nat.pow_mul,Nat.pow_two]
 rcases dF x with rfl|hx
 ·simp[cY]
 ·
  have h1:=mX hB hx;have h0:=(dM hB).2 hx;refine yE hBB ?_ (.inr ?_)
  ·rw[e1];exact bY (bt hB x) (jH (by omega) (by omega))
  ·rw[e1];exact ay (jH (by omega) (by omega)) h1
theorem qo {B m V c t:Nat}{f:Nat->Nat}(h:vs B f m+B^m*c=V)(hd:f m=(t+c)%B):vs B f (m+1)+B^(m+1)*((t+c)/B)=V+B^m*t:=by
 have h1:B^m*((t+c)%B)+B^m*(B*((t+c)/B))=B^m*(t+c):=by rw[<-aY,Nat.mod_add_div]
 rw[bz,hd,cF,cA];rw[aY] at h1;omega

def kQ (a b:Nat):Int:=if a<b then-1 else if b<a then 1 else 0
theorem ru {a b:Nat}(h:a<b):kQ a b=-1:=by unfold kQ;rw[if_pos h]
theorem oT {a b:Nat}(h:b<a):kQ a b=1:=by unfold kQ;rw[if_neg (by omega),if_pos h]
theorem Bk {a b:Nat}(h:a=b):kQ a b=0:=by unfold kQ;rw[if_neg (by omega),if_neg (by omega)]
theorem oU {B a b k n:Nat}(hB:2<=B)(ha:a<B^n)(hb:b<B^n)(hk:k<n)(he:∀j,k<j->j<n->aB B a j=aB B b j)(h:aB B a k<aB B b k):a<b:=by
 have e1:=sJ B (aB B a) (k+1) (n-(k+1));have e2:=sJ B (aB B b) (k+1) (n-(k+1));rw[show k+1+(n-(k+1))=n by omega] at e1 e2;rw[cR ha,bz] at e1;rw[cR hb,bz] at e2
 have e3:vs B (fun j=>aB B a (k+1+j)) (n-(k+1))=vs B (fun j=>aB B b (k+1+j)) (n-(k+1)):=fo fun j hj=>he _ (by omega) (by omega)
 rw[e3] at e1
 have h1:vs B (aB B a) k<B^k:=kf fun j _=>GD (by omega) a j
 have h2:B^k*(aB B a k+1)<=B^k*aB B b k:=cT _ h;rw[aY] at h2
 generalize B^k*aB B a k=p at*
 generalize B^k*aB B b k=q at*
 omega
theorem yF {B a b n:Nat}(ha:a<B^n)(hb:b<B^n)(he:∀j,j<n->aB B a j=aB B b j):a=b:=by
 rw[<-cR ha,<-cR hb];exact fo he

def ai :Nat:=65536
def ah :Nat:=4294967296
theorem aA :2<=ai:=by decide
theorem aE :2<=ah:=by decide
theorem aV (x j:Nat):aB ah x j<4294967296:=GD (by decide) x j
theorem bu (x j:Nat):aB ai x j<65536:=GD (by decide) x j
theorem sK (x j:Nat):aB ah x j=aB ai x (2*j)+65536*aB ai x (2*j+1):=Wt ai x j
theorem lC (x:Nat):ln ah x=(ln ai x+1)/2:=adB aA x

end Go.Proofs.YtclbiihcbfnjmaaGreat
/-! Plain arithmetic behind times, timesShort, divideShort, shifted. -/
namespace Go.Proofs.YtclbiihcbfnjmaaGreat

theorem Bt {B:Nat}{f g:Nat->Nat}{i m:Nat}(hi:i<m)(hg:∀j,j<m->j≠i->g j=f j):vs B g m+B^i*f i=vs B f m+B^i*g i:=by
 induction m with
 |zero=>omega
 |succ m ih=>
  rw[bz,bz]
  by_cases e:i=m
  ·
   subst e;rw[fo (g:=f) fun j hj=>hg j (by omega) (by omega)];omega
  ·
   have h1:=ih (by omega) fun j hj=>hg j (by omega)
   rw[hg m (by omega) (by omega)];omega
theorem fG {x y:Nat}(hx:x<4294967296)(hy:y<4294967296):x*y<=18446744065119617025:=dU (show x<=4294967295 by omega) (show y<=4294967295 by omega)

def ex (p k:Nat):Nat:=if k=0 then p else 0
theorem Ry {f g:Nat->Nat}{m i k x y c V:Nat}(hi:i+k<m)(hg:∀j,j<m->j≠i+k->g j=f j)(hu:g (i+k)=(x*y+f (i+k)+c)%ah){s:Nat}
  (h:vs ah f m+ah^(i+k)*c=V+ah^i*(x*s)):vs ah g m+ah^(i+k+1)*((x*y+f (i+k)+c)/ah)=V+ah^i*(x*(s+ah^k*y)):=by
 have h1:=Bt (B:=ah) hi hg
 have h2:ah^(i+k)*((x*y+f (i+k)+c)%ah)+ah^(i+k)*(ah*((x*y+f (i+k)+c)/ah))=ah^(i+k)*(x*y+f (i+k)+c):=by rw[<-aY,Nat.mod_add_div]
 have h3:ah^i*(x*(s+ah^k*y))=ah^i*(x*s)+ah^(i+k)*(x*y):=by
  rw[aY,aY,dK,cA (ah^i) (ah^k),gV x (ah^k) y]
 rw[hu] at h1;rw[h3,cF,cA];rw[aY,aY] at h2
 generalize ah^(i+k)*(ah*((x*y+f (i+k)+c)/ah))=z1 at*
 generalize ah^(i+k)*((x*y+f (i+k)+c)%ah)=z2 at*
 generalize ah^(i+k)*(x*y)=z3 at*
 generalize ah^(i+k)*f (i+k)=z4 at*
 generalize ah^(i+k)*c=z5 at*
 generalize ah^i*(x*s)=z6 at*
 omega

theorem qs {B x d k:Nat}(hd:0<d):(B*(x/B^(k+1)%d)+aB B x k)/d%B=aB B (x/d) k/\(B*(x/B^(k+1)%d)+aB B x k)%d=x/B^k%d:=by
 have e1:x/B^k=B*(x/B^(k+1))+aB B x k:=by
  rw[aB,cF,<-eJ];exact(eK _ _).symm
 have e2:x/d/B^k=x/B^k/d:=by rw[eJ,eJ,bC]
 have e3:B*(x/B^(k+1))+aB B x k=d*(B*(x/B^(k+1)/d))+(B*(x/B^(k+1)%d)+aB B x k):=by
  have h:=eK (x/B^(k+1)) d
  have h2:B*(d*(x/B^(k+1)/d)+x/B^(k+1)%d)=B*(x/B^(k+1)):=by rw[h]
  rw[aY,gV] at h2;omega
 constructor
 ·rw[show aB B (x/d) k=x/B^k/d%B by rw[aB,e2],e1,e3,Nat.mul_add_div hd,Nat.mul_add_mod]
 ·rw[e1,e3,Nat.mul_add_mod]

def Ef (x n k:Nat):Nat:=x%ah^k*2^n/ah^k
theorem BA (x n k:Nat):Ef x n k<2^n:=by
 have h:=bK x (bM (n:=k) (show 0<ah by decide));unfold Ef;rw[eX (bM (by decide)),bC (2^n)];exact sI h (bM (by decide))
theorem Rz (x n:Nat):Ef x n 0=0:=by simp[Ef,Nat.mod_one]
theorem lD {n:Nat}(hn:n<32):ah=2^n*2^(32-n):=by rw[<-dK,show n+(32-n)=32 by omega];rfl
theorem Eg {y n:Nat}(hn:n<32):y*2^n%ah=2^n*(y%2^(32-n)):=by rw[lD hn,bC y,Nat.mul_mod_mul_left]
theorem tT {x n k:Nat}(hn:n<32):aB ah (x*2^n) k=Ef x n k+aB ah x k*2^n%ah:=by
 have hp:0<ah^k:=bM (by decide)
 have e1:x*2^n=ah^k*(x/ah^k*2^n)+x%ah^k*2^n:=by
  have h:=eK x (ah^k)
  have h2:(ah^k*(x/ah^k)+x%ah^k)*2^n=x*2^n:=by rw[h]
  rw[en,cA] at h2;exact h2.symm
 have e2:x*2^n/ah^k=x/ah^k*2^n+Ef x n k:=by rw[e1,Nat.mul_add_div hp];rfl
 have e3:x/ah^k*2^n%ah=aB ah x k*2^n%ah:=by rw[aB,Nat.mod_mul_mod]
 have h1:=BA x n k
 have h3:2^n*(aB ah x k%2^(32-n))+2^n<=ah:=by
  have:=bK (aB ah x k) (bM (n:=32-n) (show 0<2 by decide));have h4:2^n*(aB ah x k%2^(32-n)+1)<=2^n*2^(32-n):=cT _ this;rw[<-lD hn,aY,fJ] at h4;exact h4
 rw[aB,e2,Nat.add_mod,e3,Eg hn];rw[fm (show Ef x n k<ah by omega),Nat.add_comm];exact fm (by omega)
theorem RA {x n k:Nat}(hn:n<32):Ef x n (k+1)=aB ah x k*2^n/ah:=by
 have hp:0<ah^k:=bM (by decide);have hq:0<2^n:=bM (by decide)
 have e:x%ah^(k+1)=ah^k*aB ah x k+x%ah^k:=by rw[cF,Nat.mod_mul,aB,Nat.add_comm]
 have e1:Ef x n (k+1)=(aB ah x k*2^n+Ef x n k)/ah:=by
  unfold Ef;rw[e,en,cA,cF,<-eJ,Nat.mul_add_div hp]
 have h1:=BA x n k;rw[e1,lD hn,<-eJ,<-eJ,Nat.mul_div_cancel _ hq,bC,Nat.mul_add_div hq,jI h1,ko]
end Go.Proofs.YtclbiihcbfnjmaaGreat
namespace Go.Proofs.YtclbiihcbfnjmaaGreat
open Go.RowKit

def Rd (B:Nat)(k:IntKind)(w:World)(A:Option Addr)(n:Nat)(f:Nat->Nat):Prop:=
 0<n->∃b o,A=some ⟨b,o,none⟩/\b<B/\∀i,i<n->w.cell? ⟨b,o+i,none⟩=some (.int k (f i:Int))

section
variable {w w':World} {B B':Nat} {k:IntKind} {A:Option Addr} {n:Nat} {f f':Nat->Nat}
theorem Rd.nil :Rd B k w A 0 f:=fun h=>absurd h (by omega)
theorem Rd.keep (h:Rd B k w A n f)(hk:∀p:Addr,p.block<B->w'.cell? p=w.cell? p):Rd B k w' A n f:=fun hn=>by
 obtain⟨b,o,e,hb,hc⟩:=h hn;exact⟨b,o,e,hb,fun i hi=>(hk _ hb).trans (hc i hi)⟩
theorem Rd.more (h:Rd B k w A n f)(hB:B<=B'):Rd B' k w A n f:=fun hn=>by
 obtain⟨b,o,e,hb,hc⟩:=h hn;exact⟨b,o,e,by omega,hc⟩
theorem Rd.below (h:Rd B k w A n f)(hb:Below B w w'):Rd B k w' A n f:=h.keep fun _ hp=>hb.cell hp
theorem Rd.shorter (h:Rd B k w A n f){j:Nat}(hj:j<=n):Rd B k w A j f:=fun hn=>by
 obtain⟨b,o,e,hb,hc⟩:=h (by omega);exact⟨b,o,e,hb,fun i hi=>hc i (by omega)⟩
theorem Rd.congr (h:Rd B k w A n f)(hf:∀i,i<n->f i=f' i):Rd B k w A n f':=fun hn=>by
 obtain⟨b,o,e,hb,hc⟩:=h hn;exact⟨b,o,e,hb,fun i hi=>by rw[<-hf i hi];exact hc i hi⟩
theorem Rd.drewN (h:Rd B k w A n f)(m:Nat):Rd B k (w.drewN m) A n f:=h
theorem Rd.alloc (h:Rd B k w A n f)(hB:B<=w.heap.size)(o:Obj):Rd B k (w.alloc o) A n f:=h.keep fun p hp=>World.cell?_alloc_lt w o p (by omega)
end

def gC (k:IntKind)(m:Nat)(f:Nat->Nat):List Value:=(List.range m).map fun j=>Value.int k (f j:Int)
theorem fA (k:IntKind)(m:Nat)(f:Nat->Nat):(gC k m f).length=m:=by simp[gC]
theorem lE {k:IntKind}{m:Nat}{f:Nat->Nat}{i:Nat}(hi:i<m):(gC k m f)[i]?=some (.int k (f i:Int)):=by simp[gC,hi]
def Row (w:World)(g t:Nat)(k:IntKind)(c m:Nat)(f:Nat->Nat):Prop:=∃cur:Array Value,w.heap[g]?=some (.cells cur t (0,0))/\cur.size=c/\∀i,i<m->cur[i]?=some (.int k (f i:Int))

section
variable {w w':World} {g t c m B:Nat} {k:IntKind} {f f':Nat->Nat}
theorem kJ {w:World}{g:Nat}{o:Obj}(h:w.heap[g]?=some o):g<w.heap.size:=by
 rcases cX g w.heap.size with hlt|hge
 ·exact hlt
 ·rw[Array.getElem?_eq_none hge] at h;cases h
theorem Row.lt (h:Row w g t k c m f):g<w.heap.size:=by obtain⟨cur,h,_⟩:=h;exact kJ h
theorem Row.cell (h:Row w g t k c m f){i:Nat}(hi:i<m):w.cell? ⟨g,i,none⟩=some (.int k (f i:Int)):=by
 obtain⟨cur,h,_,hc⟩:=h;rw[gZ w g i _ t (0,0) h];exact hc i hi
theorem Row.frozen (h:Row w g t k c m f)(i:Nat):w.frozen? ⟨g,i,none⟩=false:=by
 obtain⟨cur,h,_⟩:=h
 simp[World.frozen?,h]
theorem Row.congr (h:Row w g t k c m f)(hf:∀j,j<m->f j=f' j):Row w g t k c m f':=by
 obtain⟨cur,h,hs,hc⟩:=h;exact⟨cur,h,hs,fun i hi=>by rw[<-hf i hi];exact hc i hi⟩
theorem Row.shorter (h:Row w g t k c m f){n:Nat}(hn:n<=m):Row w g t k c n f:=by
 obtain⟨cur,h,hs,hc⟩:=h;exact⟨cur,h,hs,fun i hi=>hc i (by omega)⟩
theorem Row.drew (h:Row w g t k c m f):Row w.drew g t k c m f:=h
theorem Row.drewN (h:Row w g t k c m f)(n:Nat):Row (w.drewN n) g t k c m f:=h
theorem Row.alloc (h:Row w g t k c m f)(o:Obj):Row (w.alloc o) g t k c m f:=by
 have hlt:=h.lt;obtain⟨cur,h,r⟩:=h;exact⟨cur,(ei w o g hlt).trans h,r⟩
theorem Row.set (h:Row w g t k c m f){i u:Nat}(hi:f' i=u)(hf:∀j,j<m->j≠i->f' j=f j):Row (w.setCell ⟨g,i,none⟩ (.int k (u:Int))) g t k c m f':=by
 obtain⟨cur,h,hs,hc⟩:=h;refine⟨cur.setIfInBounds i (.int k (u:Int)),by simp[World.setCell,Array.getElem?_modify,h],by simpa using hs,fun j hj=> ?_⟩;have hsz:j<cur.size:=(Array.getElem?_eq_some_iff.1 (hc j hj)).1;rw[sH]
 by_cases e:i=j
 ·
  subst e;rw[if_pos rfl,if_pos hsz,hi]
 ·
  rw[if_neg e,hf j hj (Ne.symm e)];exact hc j hj
theorem Row.GG (h:Row w g t k c m f){i:Nat}{x:Int}(hx:x=(f' i:Int))(hf:∀j,j<m->j≠i->f' j=f j):Row (w.setCell ⟨g,i,none⟩ (.int k x)) g t k c m f':=by
 subst hx;exact h.set rfl hf
theorem Row.push (h:Row w g t k c m f)(hm:m<c){u:Nat}(hu:f m=u):Row (w.setCell ⟨g,m,none⟩ (.int k (u:Int))) g t k c (m+1) f:=by
 obtain⟨cur,h,hs,hc⟩:=h;refine⟨cur.setIfInBounds m (.int k (u:Int)),by simp[World.setCell,Array.getElem?_modify,h],by simpa using hs,fun j hj=> ?_⟩;rw[sH]
 by_cases e:m=j
 ·
  subst e;rw[if_pos rfl,if_pos (by omega),hu]
 ·
  rw[if_neg e];exact hc j (by omega)
theorem Row.far (h:Row w g t k c m f){p:Addr}(hp:g≠p.block)(u:Value):Row (w.setCell p u) g t k c m f:=by
 obtain⟨cur,h,r⟩:=h;exact⟨cur,(dL w p u g hp).trans h,r⟩
theorem Row.below (h:Row w g t k c m f)(hb:Below B w w')(hg:g<B):Row w' g t k c m f:=by
 obtain⟨cur,h,r⟩:=h;exact⟨cur,(hb.block g hg).trans h,r⟩
theorem Row.grown (h:Row w g t k c m f){row:Option Nat}(hb:w.grownBy w' row)(hg:some g≠row):Row w' g t k c m f:=by
 have hlt:=h.lt;obtain⟨cur,h,r⟩:=h;exact⟨cur,(hb.block g hlt hg).trans h,r⟩
theorem Row.rd (h:Row w g t k c m f){n:Nat}(hn:n<=m)(hB:g<B):Rd B k w (some ⟨g,0,none⟩) n f:=fun _=>
 ⟨g,0,rfl,hB,fun i hi=>by rw[fk];exact h.cell (by omega)⟩
theorem Row.made {w:World}{t m:Nat}{k:IntKind}:Row (w.alloc (.cells (madeCells #[.int k 0] m) t)) w.heap.size t k m m (fun _=>0):=by
 refine⟨_,eU _ _, ?_,fun i hi=> ?_⟩
 ·
  have:=gn List.length (toList_madeCells_one (.int k 0) m)
  simpa using this
 ·
  rw[<-qg,toList_madeCells_one,List.getElem?_replicate,if_pos hi];rfl
theorem Wu {cur:Array Value}(h:∀i,i<m->cur[i]?=some (.int k (f i:Int))):cur.toList.take m=gC k m f:=by
 refine List.ext_getElem? fun j=> ?_
 rw[List.getElem?_take]
 by_cases hj:j<m
 ·
  rw[if_pos hj,lE hj,qg];exact h j hj
 ·rw[if_neg hj,List.getElem?_eq_none (by rw[fA];omega)]
theorem Wv {cur:Array Value}(h:cur.toList.take m=gC k m f):∀i,i<m->cur[i]?=some (.int k (f i:Int)):=fun i hi=>by
 have h1:=gn (·[i]?) h;simp only[List.getElem?_take,if_pos hi,Array.getElem?_toList,lE hi] at h1;exact h1
theorem Row.own {base n:Nat}(h:Row w g t k c m f)(hb:base<=g)(hn:n<=m)(hc:n<=c)(hm:c<=maxLen):w.ownsRow base t 1 (.slice (some ⟨g,0,none⟩) n c) n (gC k n f):=by
 obtain⟨cur,h,hs,hcell⟩:=h;exact⟨by rw[fA];omega,.inr ⟨g,c,cur,rfl,hb,h,hc,hm,by omega,by rw[fJ];exact Wu fun i hi=>hcell i (by omega)⟩⟩
theorem Row.oA {base n:Nat}{v:Value}(h:w.ownsRow base t 1 v n (gC k n f)):v= .slice none 0 0/\n=0\/∃g c,v= .slice (some ⟨g,0,none⟩) n c/\base<=g/\n<=c/\c<=maxLen/\Row w g t k c n f:=by
 rcases h.2 with h0|⟨g,cap,cur,hv,hg,hh,hn,hm,hs,ht⟩
 ·exact .inl h0
 ·exact .inr ⟨g,cap,hv,hg,hn,hm,cur,hh,by omega,Wv (by rwa [fJ] at ht)⟩
end

def sL (base:Nat)(w:World)(A:Option Addr)(t:Nat)(k:IntKind)(c m:Nat)(f:Nat->Nat):Prop:=0<m->∃g,A=some ⟨g,0,none⟩/\base<=g/\Row w g t k c m f
theorem sL.oA {base n:Nat}{w:World}{t:Nat}{k:IntKind}{f:Nat->Nat}{v:Value}(h:w.ownsRow base t 1 v n (gC k n f)):∃A c,v= .slice A n c/\n<=c/\sL base w A t k c n f:=by
 rcases Row.oA h with⟨rfl,h0⟩|⟨g,c,rfl,hg,hnc,_,hr⟩
 ·exact⟨none,0,by rw[h0],by omega,fun hn=>absurd hn (by omega)⟩
 ·exact⟨_,_,rfl,hnc,fun _=>⟨g,rfl,hg,hr⟩⟩
theorem sL.rd {base n:Nat}{w:World}{A:Option Addr}{t c:Nat}{k:IntKind}{f:Nat->Nat}(h:sL base w A t k c n f):Rd w.heap.size k w A n f:=fun hn=>by
 obtain⟨g,rfl,_,hr⟩:=h hn;exact hr.rd (aq _) hr.lt hn
theorem sL.congr {base n:Nat}{w:World}{A:Option Addr}{t c:Nat}{k:IntKind}{f f':Nat->Nat}(h:sL base w A t k c n f)(hf:∀j,j<n->f j=f' j):sL base w A t k c n f':=fun hn=>by
 obtain⟨g,e,hg,hr⟩:=h hn;exact⟨g,e,hg,hr.congr hf⟩

theorem pP {P:Program}(t e:TypeId)(i:TypeInfo)(z:Value)(ht:P.underlying t=some (.slice e))(hi:P.info? e=some i)(hz:i.zero=some z)
  (kl kc:IntKind) (n c:Nat) (hnc:n<=c) (hbytes:i.bytes*c<=281474976710656) (h63:c<=9223372036854775807) (w:World):
  (Instr.makeSlice t (.int kl (n:Int)) (.int kc (c:Int))).run P w= .ok (.slice (some ⟨w.heap.size,0,none⟩) n c) (w.alloc (.cells (madeCells z.cells (c*i.size)) e)):=by
 have hb:(i.bytes:Int)*(c:Int)<=281474976710656:=by
  have h:((i.bytes*c:Nat):Int)<=281474976710656:=by omega
  rwa [cM] at h
 have hr:=run_make (P:=P) w t e i z ht hi hz kl kc n c (by omega) (by omega) hb (by omega);simp only[Int.toNat_natCast] at hr;exact hr

theorem dG {B:Nat}{a w:World}(h:Below B a w)(n:Nat):Below B a (w.drewN n):=⟨h.os,h.tape,h.output,h.size,h.block⟩
theorem Lt {k:IntKind}{u:Int}(h:0<=u):Value.int k u= .int k (u.toNat:Int):=by rw[Int.toNat_of_nonneg h]
theorem gM {k:IntKind}{a b:Int}(h:a=b):Ending.returned (.int k a)= .returned (.int k b):=by rw[h]
theorem lF {A:Option Addr}{m m' c:Nat}(h:m=m'):Ending.returned (.slice A m c)= .returned (.slice A m' c):=by rw[h]
theorem vV {k k':IntKind}{a b a' b':Int}(h:a=b)(h':a'=b'):Ending.returned (.tuple #[.int k a,.int k' a'])= .returned (.tuple #[.int k b,.int k' b']):=by rw[h,h']
end Go.Proofs.YtclbiihcbfnjmaaGreat
/-! Closed facts on the types that the functions use. -/
namespace Go.Proofs.YtclbiihcbfnjmaaGreat
open Go.RowKit

theorem Eh :(Tryz.prog.info? 171).map (fun i=>(i.zero,i.size,i.bytes))=some (some (.int .u32 0),1,4):=by kernel_rfl
theorem lG :(Tryz.prog.info? 108).map (fun i=>(i.zero,i.size,i.bytes))=some (some (.int .u16 0),1,2):=by kernel_rfl
theorem Ei (n c:Nat)(hnc:n<=c)(hc:c<=1000000000000)(w:World):
  (Instr.makeSlice 149 (.int .i64 (n:Int)) (.int .i64 (c:Int))).run Tryz.prog w= .ok (.slice (some ⟨w.heap.size,0,none⟩) n c) (w.alloc (.cells (madeCells #[.int .u32 0] c) 171)):=by
 obtain⟨i,hi,hz,hs,hb⟩:=info_parts Eh;have h:=pP (P:= Tryz.prog) 149 171 i _ Tryz.underlying149 hi hz .i64 .i64 n c hnc (by rw[hb];omega) (by omega) w;rw[hs,fJ] at h;exact h
theorem Ww (n c:Nat)(hnc:n<=c)(hc:c<=1000000000000)(w:World):
  (Instr.makeSlice 25 (.int .i64 (n:Int)) (.int .i64 (c:Int))).run Tryz.prog w= .ok (.slice (some ⟨w.heap.size,0,none⟩) n c) (w.alloc (.cells (madeCells #[.int .u16 0] c) 108)):=by
 obtain⟨i,hi,hz,hs,hb⟩:=info_parts lG;have h:=pP (P:= Tryz.prog) 25 108 i _ Tryz.underlying25 hi hz .i64 .i64 n c hnc (by rw[hb];omega) (by omega) w;rw[hs,fJ] at h;exact h
end Go.Proofs.YtclbiihcbfnjmaaGreat
/-! Numbers in memory: the words (base 2^32), the limbs (base 2^16); the posts of the functions that return them. -/
namespace Go.Proofs.YtclbiihcbfnjmaaGreat
open Go.RowKit

def aO (w:World)(A:Option Addr)(x:Nat):Prop:=Rd w.heap.size .u32 w A (ln ah x) (aB ah x)
def aJ (w:World)(A:Option Addr)(x:Nat):Prop:=Rd w.heap.size .u16 w A (ln ai x) (aB ai x)
def TM (w:World)(x:Nat)(e:Ending)(w':World):Prop:=
 ∃A c,e= .returned (.slice A (ln ah x) c)/\ln ah x<=c/\aO w' A x/\Below w.heap.size w w'
def dW (base:Nat)(w:World)(A:Option Addr)(n c:Nat)(f:Nat->Nat):Prop:=w.ownsRow base 108 1 (.slice A n c) n (gC .u16 n f)
def WW (w:World)(z:Bool)(x:Nat)(e:Ending)(w':World):Prop:=
 ∃A c,e= .returned (.agg #[.bool z,.slice A (ln ai x) c])/\dW w.heap.size w' A (ln ai x) c (aB ai x)/\Below w.heap.size w w'

theorem aO.below {w w':World}{A:Option Addr}{x:Nat}(h:aO w A x)(hb:Below w.heap.size w w'):aO w' A x:=(Rd.below h hb).more hb.size
theorem aJ.below {w w':World}{A:Option Addr}{x:Nat}(h:aJ w A x)(hb:Below w.heap.size w w'):aJ w' A x:=(Rd.below h hb).more hb.size
theorem aO.zero (w:World)(A:Option Addr):aO w A 0:=by unfold aO;rw[cY];exact Rd.nil
theorem aO.ry {w:World}{A:Option Addr}{n:Nat}{f:Nat->Nat}(h:Rd w.heap.size .u32 w A n f)(hf:∀i,i<n->f i<4294967296):aO w A (vs ah f n):=by
 have hl:ln ah (vs ah f n)<=n:=(bJ aE).2 (kf hf)
 exact(h.shorter hl).congr fun i hi=>(AZ hf (by omega)).symm

theorem dW.RB {base:Nat}{w:World}{g c m n:Nat}{f:Nat->Nat}(h:Row w g 108 .u16 c m f)(hb:base<=g)(hn:n<=m)(hnc:n<=c)(hc:c<=1000000000):dW base w (some ⟨g,0,none⟩) n c f:=
 h.own hb hn hnc (by unfold maxLen;omega)
theorem dW.nil (base:Nat)(w:World)(f:Nat->Nat):dW base w none 0 0 f:=World.ownsRow_nil ..
theorem dW.rd {base:Nat}{w:World}{A:Option Addr}{n c:Nat}{f:Nat->Nat}(h:dW base w A n c f):Rd w.heap.size .u16 w A n f:=fun hn=>by
 obtain⟨g,cap,hv,_,hlt⟩:=h.form hn
 have hA:A=some ⟨g,0,none⟩:=by injection hv
 subst hA;refine⟨g,0,rfl,hlt,fun i hi=> ?_⟩;have h1:=h.cells (g:=g) rfl i _ (lE hi);rw[fk]
 by_cases h0:i=0
 ·subst h0;simpa [Addr.add] using h1
 ·simpa [Addr.add,h0] using h1
theorem dW.num {base:Nat}{w:World}{A:Option Addr}{c x:Nat}(h:dW base w A (ln ai x) c (aB ai x)):aJ w A x:=dW.rd h
theorem dW.lower {base base':Nat}{w:World}{A:Option Addr}{n c:Nat}{f:Nat->Nat}(h:dW base w A n c f)(hb:base'<=base):dW base' w A n c f:=by
 obtain⟨h1,h2⟩:=h;refine⟨h1, ?_⟩
 rcases h2 with h2|⟨g,cap,cur,hv,hg,r⟩
 ·exact .inl h2
 ·exact .inr ⟨g,cap,cur,hv,by omega,r⟩
theorem dW.below {base B:Nat}{w w':World}{A:Option Addr}{n c:Nat}{f:Nat->Nat}(h:dW base w A n c f)(hb:Below B w w')(hB:w.heap.size<=B):dW base w' A n c f:=by
 obtain⟨h1,h2⟩:=h;refine⟨h1, ?_⟩
 rcases h2 with h2|⟨g,cap,cur,hv,hg,hh,r⟩
 ·exact .inl h2
 ·
  have hlt:g<w.heap.size:=by
   rcases cX g w.heap.size with hlt|hge
   ·exact hlt
   ·rw[Array.getElem?_eq_none hge] at hh;cases hh
  exact .inr ⟨g,cap,cur,hv,hg,(hb.block g (by omega)).trans hh,r⟩
def jU (t:TypeId)(k:IntKind)(A:Option Addr)(n:Nat)(f:Nat->Nat)(w:World)(e:Ending)(w':World):Prop:=
 ∃v,e= .returned v/\w'.ownsRow w.heap.size t 1 v n (gC k n f)/\Below w.heap.size w w'/\(A=none->v= .slice none 0 0)

end Go.Proofs.YtclbiihcbfnjmaaGreat
namespace Go.Proofs.YtclbiihcbfnjmaaGreat
open Go.RowKit

theorem aT {a b:Bool}(h:a=b):Ending.returned (.bool a)= .returned (.bool b):=by rw[h]
def okW (s:Bool)(n:Nat)(f:Nat->Nat):Bool:=if n=0 then !s else decide (n<=1024)&&(f (n-1) !=0)
def vW (ok:Nat->Bool):Nat->Bool
 |0=>true
 |k+1=>vW ok k&&ok k
theorem Ej {ok:Nat->Bool}{k n:Nat}(h:k<n)(hk:ok k=false):vW ok n=false:=by
 induction n with
 |zero=>omega
 |succ n ih=>
  simp only[vW]
  by_cases e:k=n
  ·subst e;rw[hk,Bool.and_false]
  ·rw[ih (by omega),jJ]
theorem uR {z:Int}(h:ln ai z.natAbs<=1024):okW (decide (z<0)) (ln ai z.natAbs) (aB ai z.natAbs)=true:=by
 unfold okW
 by_cases h0:ln ai z.natAbs=0
 ·
  have:=(pV aA).1 h0;rw[if_pos h0]
  simp;omega
 ·
  have hp:0<z.natAbs:=(dM aA).1 (by omega);have ht:=rq aA hp;rw[if_neg h0]
  simp[h,ht]

theorem yG (s:Bool)(A:Option Addr)(n c:Nat)(f:Nat->Nat)(w:World)(h:Rd w.heap.size .u16 w A n f)(hf:∀i,i<n->f i<65536)(hn:n<=1000000):
  Calls Tryz.prog 148 #[.agg #[.bool s,.slice A n c]] w fun e w'=>e= .returned (.bool (okW s n f))/\Below w.heap.size w w':=by
 go_enter Tryz.func148,Tryz.ntmps148
 by_cases h0:n=0
 ·
  subst h0;go_wp2_with fail
  go_ret
  exact⟨by simp[okW],(aU _ _).alloc (aq _) _⟩
 ·
  obtain⟨b,o,rfl,hb,hc⟩:=h (by omega);have c1:=hc (n-1) (by omega);have f1:=hf (n-1) (by omega)
  have hi1:0<=(n:Int)-1:=by omega
  have hi2:(n:Int)-1<(n:Int):=by omega
  have hi3:((n:Int)-1).toNat=n-1:=by omega
  have t0:((n:Int)==0)=false:=by simp;omega
  have ho:okW s n f=(decide (n<=1024)&&(f (n-1) !=0)):=by unfold okW;rw[if_neg h0]
  have HO:=af ho;clear hc hf ho
  by_cases h1:n<=1024
  ·
   have t1:(n:Int)<=1024:=by omega
   go_wp2_with fail
   go_ret
   refine⟨?_,(aU _ _).alloc (aq _) _⟩;rw[HO.out];show Ending.returned (.bool (((f (n-1):Nat):Int) !=0))=_
   have e:(((f (n-1):Nat):Int) !=0)=(f (n-1) !=0):=by
    by_cases e:f (n-1)=0
    ·rw[e];rfl
    ·rw[jK.2 e,jK.2 (by omega)]
   rw[e,aL h1,kH]
  ·
   have t1:decide ((n:Int)<=1024)=false:=aH (by omega);go_wp2_with fail
   go_ret
   refine⟨?_,(aU _ _).alloc (aq _) _⟩;rw[HO.out]
   simp[h1]

def aox (w:World)(p:Addr)(n:Nat)(s:Nat->Bool)(A:Nat->Option Addr)(m c:Nat->Nat)(f:Nat->Nat->Nat):Prop:=
 ∀i,i<n->w.cell? ⟨p.block,p.off+i*2,none⟩=some (.bool (s i))/\w.cell? ⟨p.block,p.off+i*2+1,none⟩=some (.slice (A i) (m i) (c i))/\Rd w.heap.size .u16 w (A i) (m i) (f i)/\(∀j,j<m i->f i j<65536)/\m i<=1000000
theorem BB (b o n:Nat)(s:Nat->Bool)(A:Nat->Option Addr)(m c:Nat->Nat)(f:Nat->Nat->Nat)(w:World)(h:aox w ⟨b,o,none⟩ n s A m c f)(hb:b<w.heap.size)(hn:n<=1000):
  Calls Tryz.prog 122 #[.slice (some ⟨b,o,none⟩) n n] w fun e w'=>e= .returned (.bool (vW (fun i=>okW (s i) (m i) (f i)) n))/\Below w.heap.size w w':=by
 go_enter Tryz.func122,Tryz.ntmps122
 go_wp2_with fail
 go_loopw [7] (fun i wr=>∃k:Nat,k<=n/\i= .int .i64 (k:Int)/\vW (fun i=>okW (s i) (m i) (f i)) k=true/\Below w.heap.size w wr) (fun i _=>n-(intOf i).toNat)
 case atStart=>exact⟨0,bF _,rfl,rfl,aU _ _⟩
 case round=>
  obtain⟨k,hk,rfl,hok,bh⟩:=hrel
  by_cases hlt:k<n
  ·
   obtain⟨c1,c2,hrd,hf,hm⟩:=h k hlt;have d1:=(bh.cell (p:=⟨b,o+k*2,none⟩) hb).trans c1;have d2:=(bh.cell (p:=⟨b,o+k*2+1,none⟩) hb).trans c2
   have hv:=fun w' (hw':Below w.heap.size w w')=>yG (s k) (A k) (m k) (c k) (f k) w' ((hrd.below hw').more hw'.size) hf hm
   have HV:=af hv;have HOK:=af hok;clear hv c1 c2 hok h hf;go_wp2_with fail
   refine(HV.out _ (bh.alloc bh.size _)).mono ?_
   rintro e w2 ⟨rfl,eS⟩
   have dS:=(bh.alloc bh.size (.cells #[.bool (s k),.slice (A k) (m k) (c k)] 27)).trans (eS.mono (by simp;have:=bh.size;omega))
   cases hok:okW (s k) (m k) (f k)
   ·
    go_wp2_with fail
    go_ret
    exact⟨aT (Ej hlt hok).symm,dS⟩
   ·
    go_wp2_with fail
    go_roundw
    case rel=>exact⟨k+1,by omega,by go_num,by simp only[vW];rw[HOK.out,hok];rfl,dS⟩
    case measure=>simp[intOf];omega
  ·
   obtain rfl:k=n:=by omega
   clear h;go_wp2_with fail
   go_ret
   exact⟨aT hok.symm,bh⟩
end Go.Proofs.YtclbiihcbfnjmaaGreat
namespace Go.Proofs.YtclbiihcbfnjmaaGreat
open Go.RowKit

theorem Ek (c:Nat)(f:Nat->Nat)(w:World):Calls Tryz.prog 192 #[.slice none 0 c] w (jU 171 .u32 none 0 f w):=by
 have qT:∀(w:World) (a:Option Addr) (n c n' c':Nat),(binOp .eql 149 (.slice a n c) (.slice none n' c')).run Tryz.prog w= .ok (.bool a.isNone) w:=fun w a n c n' c'=>Lib.run_eql_slice_nil w _ _ a n c n' c' Tryz.underlying149
 go_enter Tryz.func192,Tryz.ntmps192
 go_wp2
 go_ret
 exact⟨_,rfl,World.ownsRow_nil ..,aU _ _,fun _=>rfl⟩

theorem BC (a:Addr)(n c:Nat)(f:Nat->Nat)(w:World)(h:Rd w.heap.size .u32 w (some a) n f)(hn:n<=100000000):Calls Tryz.prog 192 #[.slice (some a) n c] w (jU 171 .u32 (some a) n f w):=by
 have qT:∀(w:World) (a:Option Addr) (n c n' c':Nat),(binOp .eql 149 (.slice a n c) (.slice none n' c')).run Tryz.prog w= .ok (.bool a.isNone) w:=fun w a n c n' c'=>Lib.run_eql_slice_nil w _ _ a n c n' c' Tryz.underlying149
 obtain⟨i0,hi,Kx,xM,El⟩:=info_parts Eh
 go_enter Tryz.func192,Tryz.ntmps192
 have hcell:∀(j:Nat) (u:Value),(gC .u32 n f)[j]?=some u->(w.alloc (.cells #[] 171)).cell? (a.add j)=some u:=by
  intro j u hu
  have hj:j<n:=by
   rcases cX j n with hj|hj
   ·exact hj
   ·rw[List.getElem?_eq_none (by rw[fA];exact hj)] at hu;cases hu
  obtain⟨b,o,e,hb,hc⟩:=(h.alloc (aq _) (.cells #[] 171)) (by omega)
  have e':a=⟨b,o,none⟩:=by injection e
  subst e';rw[lE hj] at hu;have h1:=hc j hj;unfold Addr.add
  split
  ·rename_i h0;subst h0;rw[<-hu];exact h1
  ·rw[<-hu];exact h1
 have HC:=af hcell;clear hcell
 have HL:(gC .u32 n f).length=n*1:=by rw[fA];omega
 have H1:∀u∈gC .u32 n f,u.oneCell'=true:=by simp[gC,Value.oneCell']
 have HM:0+n<=maxLen:=by unfold maxLen;omega
 have HB:(0+n)*4<=140737488355328:=by omega
 have HS:w.heap.size<=(w.alloc (.cells #[] 171)).heap.size:=by simp
 go_wp2_with (at_builtin;refine wpList_append_own _ rfl _ _ 149 rfl w.heap.size 171 i0 (.int .u32 0) 1 4 Tryz.underlying149 hi Kx xM El rfl (by decide) _ _ _ rfl (World.ownsRow_made w #[] 0 (aq _) (by decide) rfl) a n c (gC .u32 n f) rfl HL HC.out H1 HM HB HS ?_;intro v' w1 hown hgrow aoy)
 go_ret
 refine⟨_,rfl, ?_, ?_,fun e=>by cases e⟩
 ·
  rw[fk,List.nil_append] at hown;exact hown
 ·exact((aU _ _).alloc (aq _) _).grown hgrow (by simp) (fun k e=>by cases e;exact aq _)
theorem tU (A:Option Addr)(n c:Nat)(f:Nat->Nat)(w:World)(h:Rd w.heap.size .u32 w A n f)(hn:n<=100000000):Calls Tryz.prog 192 #[.slice A n c] w (jU 171 .u32 A n f w):=by
 cases A with
 |some a=>exact BC a n c f w h hn
 |none=>
  rcases dF n with rfl|h0
  ·exact Ek c f w
  ·
   obtain⟨b,o,e,_⟩:=h h0
   cases e
end Go.Proofs.YtclbiihcbfnjmaaGreat
/-! slices.Clone of limbs. -/
namespace Go.Proofs.YtclbiihcbfnjmaaGreat
open Go.RowKit

theorem Em (c:Nat)(f:Nat->Nat)(w:World):Calls Tryz.prog 76 #[.slice none 0 c] w (jU 108 .u16 none 0 f w):=by
 have qT:∀(w:World) (a:Option Addr) (n c n' c':Nat),(binOp .eql 25 (.slice a n c) (.slice none n' c')).run Tryz.prog w= .ok (.bool a.isNone) w:=fun w a n c n' c'=>Lib.run_eql_slice_nil w _ _ a n c n' c' Tryz.underlying25
 go_enter Tryz.func76,Tryz.ntmps76
 go_wp2
 go_ret
 exact⟨_,rfl,World.ownsRow_nil ..,aU _ _,fun _=>rfl⟩

theorem BD (a:Addr)(n c:Nat)(f:Nat->Nat)(w:World)(h:Rd w.heap.size .u16 w (some a) n f)(hn:n<=100000000):Calls Tryz.prog 76 #[.slice (some a) n c] w (jU 108 .u16 (some a) n f w):=by
 have qT:∀(w:World) (a:Option Addr) (n c n' c':Nat),(binOp .eql 25 (.slice a n c) (.slice none n' c')).run Tryz.prog w= .ok (.bool a.isNone) w:=fun w a n c n' c'=>Lib.run_eql_slice_nil w _ _ a n c n' c' Tryz.underlying25
 obtain⟨i0,hi,Kx,xM,El⟩:=info_parts lG
 go_enter Tryz.func76,Tryz.ntmps76
 have hcell:∀(j:Nat) (u:Value),(gC .u16 n f)[j]?=some u->(w.alloc (.cells #[] 108)).cell? (a.add j)=some u:=by
  intro j u hu
  have hj:j<n:=by
   rcases cX j n with hj|hj
   ·exact hj
   ·rw[List.getElem?_eq_none (by rw[fA];exact hj)] at hu;cases hu
  obtain⟨b,o,e,hb,hc⟩:=(h.alloc (aq _) (.cells #[] 108)) (by omega)
  have e':a=⟨b,o,none⟩:=by injection e
  subst e';rw[lE hj] at hu;have h1:=hc j hj;unfold Addr.add
  split
  ·rename_i h0;subst h0;rw[<-hu];exact h1
  ·rw[<-hu];exact h1
 have HC:=af hcell;clear hcell
 have HL:(gC .u16 n f).length=n*1:=by rw[fA];omega
 have H1:∀u∈gC .u16 n f,u.oneCell'=true:=by simp[gC,Value.oneCell']
 have HM:0+n<=maxLen:=by unfold maxLen;omega
 have HB:(0+n)*2<=140737488355328:=by omega
 have HS:w.heap.size<=(w.alloc (.cells #[] 108)).heap.size:=by simp
 go_wp2_with (at_builtin;refine wpList_append_own _ rfl _ _ 25 rfl w.heap.size 108 i0 (.int .u16 0) 1 2 Tryz.underlying25 hi Kx xM El rfl (by decide) _ _ _ rfl (World.ownsRow_made w #[] 0 (aq _) (by decide) rfl) a n c (gC .u16 n f) rfl HL HC.out H1 HM HB HS ?_;intro v' w1 hown hgrow aoy)
 go_ret
 refine⟨_,rfl, ?_, ?_,fun e=>by cases e⟩
 ·
  rw[fk,List.nil_append] at hown;exact hown
 ·exact((aU _ _).alloc (aq _) _).grown hgrow (by simp) (fun k e=>by cases e;exact aq _)
theorem tV (A:Option Addr)(n c:Nat)(f:Nat->Nat)(w:World)(h:Rd w.heap.size .u16 w A n f)(hn:n<=100000000):Calls Tryz.prog 76 #[.slice A n c] w (jU 108 .u16 A n f w):=by
 cases A with
 |some a=>exact BD a n c f w h hn
 |none=>
  rcases dF n with rfl|h0
  ·exact Em c f w
  ·
   obtain⟨b,o,e,_⟩:=h h0
   cases e
end Go.Proofs.YtclbiihcbfnjmaaGreat
namespace Go.Proofs.YtclbiihcbfnjmaaGreat
open Go.RowKit

theorem GH {f:Nat->Nat}{k V:Nat}(RC:0<k)(hv:vs ah f k=V)(hx:((f (k-1):Nat):Int)=0):vs ah f (k-1)=V:=by
 have h1:=bz ah f (k-1);rw[show k-1+1=k by omega,hv,show f (k-1)=0 by omega] at h1;omega

theorem yH (B:Nat)(A:Option Addr)(n c:Nat)(f:Nat->Nat)(w:World)(h:Rd B .u32 w A n f)(hf:∀i,i<n->f i<4294967296)(hc:n<=c)(_hn:n<=100000000):
  Calls Tryz.prog 174 #[.slice A n c] w fun e w'=>e= .returned (.slice A (ln ah (vs ah f n)) c)/\w=w':=by
 have HF:=af hf;clear hf
 go_enter Tryz.func174,Tryz.ntmps174
 go_wp2
 go_loop [0] (fun v=>∃k:Nat,k<=n/\v= .slice A k c/\vs ah f k=vs ah f n) (fun v=>match v with| .slice _ k _=>k|_=>0)
 case atStart=>exact⟨n,aq _,rfl,rfl⟩
 case round=>
  obtain⟨k,hk,rfl,hv⟩:=hrel;have HV:=af hv;clear hv
  rcases dF k with rfl|RC
  ·
   go_wp2
   go_ret
   exact⟨lF (by rw[<-HV.out,kI,cY]),rfl⟩
  ·
   obtain⟨b,o,rfl,hb,hcell⟩:=h (by omega);have hx:=hcell (k-1) (by omega)
   go_wp2
   ·
    have h0:(((f (k-1):Nat):Int)==0)=true:=by assumption
    go_round
    case rel=>exact⟨k-1,by omega,rfl,GH RC HV.out (by simpa using h0)⟩
    case measure=>simp;omega
   ·
    have h0:(((f (k-1):Nat):Int)==0)=false:=by assumption
    go_ret
    have hne:f (k-1)≠0:=by
     intro e;rw[e] at h0
     simp at h0
    exact⟨lF (by rw[<-HV.out,Rx aE (fun j hj=>HF.out j (by omega)) (.inr hne)]),rfl⟩
theorem gH (A:Option Addr)(n c:Nat)(f:Nat->Nat)(w:World)(h:Rd w.heap.size .u32 w A n f)(hf:∀i,i<n->f i<4294967296)(hc:n<=c)(hn:n<=100000000):
  Calls Tryz.prog 174 #[.slice A n c] w fun e w'=>e= .returned (.slice A (ln ah (vs ah f n)) c)/\w=w'/\aO w A (vs ah f n)/\ln ah (vs ah f n)<=c:=
 (yH _ A n c f w h hf hc hn).mono fun _ _ ⟨he,hw⟩=>⟨he,hw,aO.ry h hf,ay ((bJ aE).2 (kf hf)) hc⟩
theorem En (A:Option Addr)(c x:Nat)(w:World)(h:aO w A x)(hc:ln ah x<=c)(hn:ln ah x<=100000000):
  Calls Tryz.prog 174 #[.slice A (ln ah x) c] w fun e w'=>e= .returned (.slice A (ln ah x) c)/\w=w':=
 (yH _ A _ c _ w h (fun i _=>aV x i) hc hn).mono fun _ _ ⟨he,hw⟩=>⟨by rw[he,dB aE],hw⟩
theorem RD (H x c:Nat)(w:World)(h:w.cell? ⟨H,0,none⟩=some (.int .u32 (x:Int)))(hH:H<w.heap.size)(hx:x<4294967296)(hc:1<=c):
  Calls Tryz.prog 174 #[.slice (some ⟨H,0,none⟩) 1 c] w fun e w'=>e= .returned (.slice (some ⟨H,0,none⟩) (ln ah x) c)/\w=w'/\aO w (some ⟨H,0,none⟩) x/\ln ah x<=c:=by
 have h1:=gH (some ⟨H,0,none⟩) 1 c (fun _=>x) w (fun _=>⟨H,0,rfl,hH,fun i hi=>by
  obtain rfl:i=0:=by omega
  exact h⟩) (fun _ _=>hx) hc (by omega)
 rw[show vs ah (fun _=>x) 1=x by simp[vs]] at h1;exact h1
end Go.Proofs.YtclbiihcbfnjmaaGreat
namespace Go.Proofs.YtclbiihcbfnjmaaGreat
open Go.RowKit

def JJ (a b:Nat)(w:World)(e:Ending)(w':World):Prop:=e= .returned (.int .i64 (kQ a b))/\∃n,w'=w.drewN n

theorem Eo (A B:Option Addr)(n m c d:Nat)(w:World)(h:n≠m):
  Calls Tryz.prog 123 #[.slice A n c,.slice B m d] w fun e w'=>e= .returned (.int .i64 (kQ n m))/\w=w':=by
 rcases oQ h with h1|h1
 ·
  have k1:((n:Int) !=m)=true:=by simp;omega
  have k2:(n:Int)<m:=by omega
  have k3:=af (ru h1)
  go_enter Tryz.func123,Tryz.ntmps123
  go_wp2
  go_ret
  exact⟨gM k3.out.symm,rfl⟩
 ·
  have k1:((n:Int) !=m)=true:=by simp;omega
  have k2:¬(n:Int)<m:=by omega
  have k3:=af (oT h1)
  go_enter Tryz.func123,Tryz.ntmps123
  go_wp2
  go_ret
  exact⟨gM k3.out.symm,rfl⟩

theorem BF (A B:Option Addr)(n c d a b:Nat)(w:World)(ha:Rd w.heap.size .u32 w A n (aB ah a))(hb:Rd w.heap.size .u32 w B n (aB ah b))(hn:n<=100000000)(la:a<ah^n)(lb:b<ah^n):
  Calls Tryz.prog 123 #[.slice A n c,.slice B n d] w (JJ a b w):=by
 have LA:=af la;have LB:=af lb;clear la lb
 have hcell:∀j,j<n->∃p q p' q',A=some ⟨p,q,none⟩/\B=some ⟨p',q',none⟩/\(w.cell? ⟨p,q+j,none⟩=some (.int .u32 (aB ah a j:Int)))/\(w.cell? ⟨p',q'+j,none⟩=some (.int .u32 (aB ah b j:Int))):=fun j hj=>by
  obtain⟨p,q,e,_,h1⟩:=ha (by omega);obtain⟨p',q',e',_,h2⟩:=hb (by omega);exact⟨p,q,p',q',e,e',h1 j hj,h2 j hj⟩
 have HC:=af hcell;clear ha hb hcell
 go_enter Tryz.func123,Tryz.ntmps123
 go_wp2
 go_loopw [5] (fun i wr=>∃k:Nat,k<=n/\i= .int .i64 ((k:Int)-1)/\(∀j,k<=j->j<n->aB ah a j=aB ah b j)/\∃m,wr=w.drewN m) (fun i _=>(intOf i+1).toNat)
 case atStart=>exact⟨n,aq _,rfl,fun j h1 h2=>absurd h2 (by omega),0,rfl⟩
 case round=>
  obtain⟨k,hk,rfl,he,m,rfl⟩:=hrel;have HE:=af he;clear he
  rcases dF k with rfl|RC
  ·
   go_wp2
   go_ret
   exact⟨gM (Bk (yF LA.out LB.out fun j hj=>HE.out j (by omega) hj)).symm,m,rfl⟩
  ·
   obtain⟨p,q,p',q',rfl,rfl,h1,h2⟩:=HC.out (k-1) (by omega)
   have ek:((k:Int)-1).toNat=k-1:=by omega
   rcases Nat.lt_trichotomy (aB ah a (k-1)) (aB ah b (k-1)) with hlt|heq|hgt
   ·
    have t1:(((aB ah a (k-1):Nat):Int) !=((aB ah b (k-1):Nat):Int))=true:=by simp;omega
    have t2:((aB ah a (k-1):Nat):Int)<((aB ah b (k-1):Nat):Int):=by omega
    have t3:=af (ru (oU aE LA.out LB.out (by omega) (fun j h1 h2=>HE.out j (by omega) h2) hlt))
    go_wp2
    go_quiet (fail)
    go_wp2
    go_quiet (fail)
    go_wp2
    go_ret
    exact⟨gM t3.out.symm,_,by rw[gU,gU]⟩
   ·
    have t1:(((aB ah a (k-1):Nat):Int) !=((aB ah b (k-1):Nat):Int))=false:=by simp;omega
    go_wp2
    go_quiet (fail)
    go_wp2
    go_roundw
    case rel=>
     refine⟨k-1,by omega,by go_num,fun j h1 h2=> ?_,_,rfl⟩
     by_cases e:j=k-1
     ·rw[e];exact heq
     ·exact HE.out j (by omega) h2
    case measure=>simp[intOf];omega
   ·
    have t1:(((aB ah a (k-1):Nat):Int) !=((aB ah b (k-1):Nat):Int))=true:=by simp;omega
    have t2:¬((aB ah a (k-1):Nat):Int)<((aB ah b (k-1):Nat):Int):=by omega
    have t3:=af (oT (oU aE LB.out LA.out (by omega) (fun j h1 h2=>(HE.out j (by omega) h2).symm) hgt))
    go_wp2
    go_quiet (fail)
    go_wp2
    go_quiet (fail)
    go_wp2
    go_ret
    exact⟨gM t3.out.symm,_,by rw[gU,gU]⟩
theorem iu (A B:Option Addr)(c d a b:Nat)(w:World)(ha:aO w A a)(hb:aO w B b)(la:ln ah a<=100000000):
  Calls Tryz.prog 123 #[.slice A (ln ah a) c,.slice B (ln ah b) d] w (JJ a b w):=by
 by_cases h:ln ah a=ln ah b
 ·
  unfold aO at ha hb;have h1:=bt aE a;have h2:=bt aE b;rw[<-h] at hb h2⊢;exact BF A B _ c d a b w ha hb la h1 h2
 ·
  refine(Eo A B _ _ c d w h).mono fun e w' ⟨he,hw⟩=>⟨?_,0,hw.symm⟩
  rw[he]
  rcases oQ h with h1|h1
  ·
   have:a<b:=Nat.lt_of_not_le fun hle=>by have:=cN aE hle;omega
   rw[ru h1,ru this]
  ·
   have:b<a:=Nat.lt_of_not_le fun hle=>by have:=cN aE hle;omega
   rw[oT h1,oT this]
end Go.Proofs.YtclbiihcbfnjmaaGreat
namespace Go.Proofs.YtclbiihcbfnjmaaGreat
open Go.RowKit

structure Coll (B0 Bc Bb Bv g c:Nat)(f:Nat->Nat)(w:World)(n carry:Nat):Prop where
 aoz:w.heap[Bc]?=some (.cells #[.int .u64 (carry:Int)] 142 (0,0))
 box:w.heap[Bb]?=some (.cells #[.pointer (some ⟨Bv,0,none⟩)] 206 (0,0))
 var:w.heap[Bv]?=some (.cells #[.slice (some ⟨g,0,none⟩) n c] 149 (0,0))
 row:Row w g 171 .u32 c n f
 asJ:B0<=Bc/\B0<=Bb/\B0<=Bv/\B0<=g/\Bc≠Bb/\Bc≠Bv/\Bc≠g/\Bb≠Bv/\Bb≠g/\Bv≠g

theorem Lu {B0 Bc Bb Bv g c:Nat}{f:Nat->Nat}{w:World}{n carry:Nat}(h:Coll B0 Bc Bb Bv g c f w n carry)(hn:n<c){x v:Int}{sM:Nat}{o:Obj}(hx:x=(f n:Int))(hv:v=(sM:Int)):
  Coll B0 Bc Bb Bv g c f ((((w.setCell ⟨g,n,none⟩ (.int .u32 x)).setCell ⟨Bv,0,none⟩ (.slice (some ⟨g,0,none⟩) (n+1) c)).setCell ⟨Bc,0,none⟩ (.int .u64 v)).alloc o).drew (n+1) sM:=by
 subst hx hv;obtain⟨h1,h2,h3,h4,l1,l2,l3,l4,d1,d2,d3,d4,d5,d6⟩:=h;have e1:=one_setCell (u:= .int .u64 (sM:Int)) ((dL (w.setCell ⟨g,n,none⟩ (.int .u32 (f n:Int))) ⟨Bv,0,none⟩ (.slice (some ⟨g,0,none⟩) (n+1) c) Bc d2).trans ((dL w ⟨g,n,none⟩ (.int .u32 (f n:Int)) Bc d3).trans h1));have e3:=one_setCell (u:= .slice (some ⟨g,0,none⟩) (n+1) c) ((dL w ⟨g,n,none⟩ (.int .u32 (f n:Int)) Bv d6).trans h3);have f3:=(dL _ ⟨Bc,0,none⟩ (.int .u64 (sM:Int)) Bv (Ne.symm d2)).trans e3;have f2:=(dL _ ⟨Bc,0,none⟩ (.int .u64 (sM:Int)) Bb (Ne.symm d1)).trans ((dL (w.setCell ⟨g,n,none⟩ (.int .u32 (f n:Int))) ⟨Bv,0,none⟩ (.slice (some ⟨g,0,none⟩) (n+1) c) Bb d4).trans ((dL w ⟨g,n,none⟩ (.int .u32 (f n:Int)) Bb d5).trans h2));have f4:=((h4.push hn rfl).far (p:=⟨Bv,0,none⟩) (Ne.symm d6) (.slice (some ⟨g,0,none⟩) (n+1) c)).far (p:=⟨Bc,0,none⟩) (Ne.symm d3) (.int .u64 (sM:Int));exact⟨(ei _ _ _ (lt_of_block e1)).trans e1,(ei _ _ _ (lt_of_block f2)).trans f2,(ei _ _ _ (lt_of_block f3)).trans f3,(f4.alloc _).drew,l1,l2,l3,l4,d1,d2,d3,d4,d5,d6⟩
theorem Ep (B0 Bc Bb Bv g c:Nat)(f:Nat->Nat)(n carry sum:Nat)(w:World)(h:Coll B0 Bc Bb Bv g c f w n carry)(hn:n<c)(hs:sum+carry<18446744073709551616)
  (hf:f n=(sum+carry)%4294967296):
  Calls Tryz.prog 204 #[.int .u64 (sum:Int),.pointer (some ⟨Bc,0,none⟩),.pointer (some ⟨Bb,0,none⟩)] w fun e w'=>e= .returned (.tuple #[])/\Coll B0 Bc Bb Bv g c f w' (n+1) ((sum+carry)/4294967296)/\Below B0 w w':=by
 obtain⟨h1,h2,h3,⟨cur,hrow,hsz,aii⟩,l1,l2,l3,l4,d1,d2,d3,d4,d5,d6⟩:=h;have c1:=cell_of_one h1;have c2:=cell_of_one h2;have c3:=cell_of_one h3;have k1:=free_of_one h1;have k3:=free_of_one h3
 have c4:w.cell? ⟨g,n,none⟩=some cur[n]:=by
  rw[gZ w g n _ _ (0,0) hrow];exact qh (by omega)
 have k4:w.frozen? ⟨g,n,none⟩=false:=by simp[World.frozen?,hrow]
 have b1:=lt_of_block h1;have b2:=lt_of_block h2;have b3:=lt_of_block h3;have b4:=kJ hrow
 have vu:n+1<=c:=by omega
 have HF:=af hf;have HR:=af aii;clear hf aii
 go_enter Tryz.func204,Tryz.ntmps204
 go_wp2
 go_region
 go_wp2
 go_end0
 refine⟨rfl,Lu ⟨h1,h2,h3,⟨cur,hrow,hsz,HR.out⟩,l1,l2,l3,l4,d1,d2,d3,d4,d5,d6⟩ hn (by rw[HF.out];omega) (by omega), ?_⟩;exact((((aU _ _).setCell (p:=⟨g,n,none⟩) l4 _).setCell (p:=⟨Bv,0,none⟩) l3 _).setCell (p:=⟨Bc,0,none⟩) l1 _).alloc (by simp[World.setCell];omega) _|>.drew
theorem iw (B0 Bc Bb Bv g c:Nat)(f:Nat->Nat)(n carry sum:Nat)(s:Int)(w:World)(h:Coll B0 Bc Bb Bv g c f w n carry)(hn:n<c)(hs:sum+carry<18446744073709551616)
  (hf:f n=(sum+carry)%4294967296) (e:s=(sum:Int)):
  Calls Tryz.prog 204 #[.int .u64 s,.pointer (some ⟨Bc,0,none⟩),.pointer (some ⟨Bb,0,none⟩)] w fun e w'=>e= .returned (.tuple #[])/\Coll B0 Bc Bb Bv g c f w' (n+1) ((sum+carry)/4294967296)/\Below B0 w w':=by
 subst e;exact Ep B0 Bc Bb Bv g c f n carry sum w h hn hs hf
theorem pQ (p:Addr)(w:World):Calls Tryz.prog 197 #[.pointer (some p)] w fun e w'=>
  e= .returned (.func (.func 204) #[] #[.pointer (some ⟨w.heap.size+1,0,none⟩),.pointer (some ⟨w.heap.size,0,none⟩)])/\(w.alloc (.cells #[.pointer (some p)] 206)).alloc (.cells #[.int .u64 0] 142)=w':=by
 go_enter Tryz.func197,Tryz.ntmps197
 go_wp2
 go_ret
 exact⟨rfl,rfl⟩
theorem vX (w:World)(c:Nat)(f:Nat->Nat):
  Coll w.heap.size (w.heap.size+1+1+1) (w.heap.size+1+1) (w.heap.size+1) w.heap.size c f
   ((((w.alloc (.cells (madeCells #[.int .u32 0] c) 171)).alloc (.cells #[.slice (some ⟨w.heap.size,0,none⟩) 0 c] 149)).alloc (.cells #[.pointer (some ⟨w.heap.size+1,0,none⟩)] 206)).alloc (.cells #[.int .u64 0] 142)) 0 0:=by
 refine⟨?_, ?_, ?_,((((Row.made.shorter (bF _)).congr fun j hj=>absurd hj (by omega)).alloc _).alloc _).alloc _,by omega,by omega,by omega,by omega,by omega,by omega,by omega,by omega,by omega,by omega⟩
 ·
  have:=eU (((w.alloc (.cells (madeCells #[.int .u32 0] c) 171)).alloc (.cells #[.slice (some ⟨w.heap.size,0,none⟩) 0 c] 149)).alloc (.cells #[.pointer (some ⟨w.heap.size+1,0,none⟩)] 206)) (.cells #[.int .u64 0] 142)
  simpa using this
 ·
  have:=eU ((w.alloc (.cells (madeCells #[.int .u32 0] c) 171)).alloc (.cells #[.slice (some ⟨w.heap.size,0,none⟩) 0 c] 149)) (.cells #[.pointer (some ⟨w.heap.size+1,0,none⟩)] 206);refine(ei _ _ _ (by simp)).trans ?_
  simpa using this
 ·
  have:=eU (w.alloc (.cells (madeCells #[.int .u32 0] c) 171)) (.cells #[.slice (some ⟨w.heap.size,0,none⟩) 0 c] 149);refine(ei _ _ _ (by simp)).trans ((ei _ _ _ (by simp)).trans ?_)
  simpa using this
theorem vY (w:World)(o1 o2:Obj)(o3 o4:Obj):Below w.heap.size w ((((w.alloc o1).alloc o2).alloc o3).alloc o4):=
 ((((aU _ w).alloc (aq _) _).alloc (by simp) _).alloc (by simp;omega) _).alloc (by simp;omega) _
end Go.Proofs.YtclbiihcbfnjmaaGreat
namespace Go.Proofs.YtclbiihcbfnjmaaGreat
open Go

theorem qt {i a b:Nat}(hb:b<2^i):2^i*a|||b=2^i*a+b:=(Nat.two_pow_add_eq_or_of_lt hb a).symm
theorem tW {i a b:Nat}(hb:b<2^i):b|||2^i*a=b+2^i*a:=by rw[Nat.or_comm,qt hb,Nat.add_comm]
theorem GI {a b:Nat}(ha:a<65536)(hb:b<65536):bits .or .u32 (a:Int) ((65536*b:Nat):Int)=((a+65536*b:Nat):Int):=by
 rw[u32_or_nat a (65536*b) (by omega) (by omega),show 65536*b=2^16*b by rfl,tW (by omega)]
theorem Er {b:Nat}(hb:b<4294967296):bits .or .u32 0 (b:Int)=(b:Int):=by
 have:=u32_or_nat 0 b (by omega) hb;rw[Nat.zero_or] at this;exact this
def ja (x y b:Nat):Nat:=(x+4294967296-y-b)%4294967296
def lH (x y b:Nat):Nat:=if x<y+b then 1 else 0
theorem BG (x y b:Nat):lH x y b<=1:=by unfold lH;split<;>omega
theorem sub_eq {x y b:Nat}(hx:x<4294967296)(hy:y<4294967296)(hb:b<=1):x+4294967296*lH x y b=ja x y b+y+b:=by
 unfold ja lH;split<;>omega
theorem mY (x y b:Nat):ja x y b<4294967296:=bK _ (by decide)
theorem lI {p:Nat}(h:p<=1):p=0\/p=1:=by omega
theorem GJ {x y b:Nat}(hx:x<4294967296)(hy:y<4294967296)(hb:b<=1):
  (((4294967295^^^x)&&&y)|||((4294967295^^^(x^^^y))&&&ja x y b))/2147483648=lH x y b:=by
 have e:∀n:Nat,n/2147483648=n>>>31:=fun n=>by rw[Nat.shiftRight_eq_div_pow]
 have hd:=mY x y b;have h:=sub_eq hx hy hb;have hB:=BG x y b;have hxx:x>>>31=x/2147483648:=(e x).symm;have hyy:y>>>31=y/2147483648:=(e y).symm;have hdd:ja x y b>>>31=ja x y b/2147483648:=(e _).symm;rw[e,Nat.shiftRight_or_distrib,Nat.shiftRight_and_distrib,Nat.shiftRight_and_distrib,Nat.shiftRight_xor_distrib,Nat.shiftRight_xor_distrib,Nat.shiftRight_xor_distrib,hxx,hyy,hdd,show(4294967295:Nat)>>>31=1 by rfl]
 generalize hdN:ja x y b=d at*
 generalize hsN:lH x y b=s at*
 have hx1:x/2147483648<=1:=by omega
 have hy1:y/2147483648<=1:=by omega
 have rY:d/2147483648<=1:=by omega
 rcases lI hx1 with h1|h1<;>rcases lI hy1 with h2|h2<;>rcases lI rY with h3|h3<;>rw[h1,h2,h3]<;>simp<;>omega
theorem Wx :IntKind.u32.max=((4294967295:Nat):Int):=rfl
theorem uy {x y b:Nat}(hx:x<4294967296)(hy:y<4294967296)(hb:b<=1):
  bits .or .u32 (bits .and .u32 (bits .xor .u32 IntKind.u32.max x) y) (bits .and .u32 (bits .xor .u32 IntKind.u32.max (bits .xor .u32 x y)) (((x:Int)-y-b)%4294967296))/2147483648=((lH x y b:Nat):Int):=by
 have ed:((x:Int)-y-b)%4294967296=((ja x y b:Nat):Int):=by unfold ja;omega
 have hd:=mY x y b;have hxy:x^^^y<4294967296:=Nat.xor_lt_two_pow (n:=32) hx hy;have h1:4294967295^^^x<4294967296:=Nat.xor_lt_two_pow (n:=32) (by decide) hx;have h2:4294967295^^^(x^^^y)<4294967296:=Nat.xor_lt_two_pow (n:=32) (by decide) hxy
 rw[ed,Wx,u32_xor_nat _ _ (by decide) hx,u32_xor_nat _ _ hx hy,u32_xor_nat _ _ (by decide) hxy,u32_and_nat _ _ h1 hy,u32_and_nat _ _ h2 hd,
  u32_or_nat _ _ (eH Nat.and_le_right hy) (eH Nat.and_le_right hd),<-GJ hx hy hb]
 omega
theorem jm {a b:Nat}(ha:a<4294967296)(hb:b<4294967296):bits .or .u64 ((4294967296*a:Nat):Int) (b:Int)=((4294967296*a+b:Nat):Int):=by
 rw[u64_or_nat _ _ (by omega) (by omega),show 4294967296*a=2^32*a by rfl,qt (by omega)]
end Go.Proofs.YtclbiihcbfnjmaaGreat
namespace Go.Proofs.YtclbiihcbfnjmaaGreat
open Go.RowKit

theorem sN (x y b:Nat)(w:World)(hx:x<4294967296)(hy:y<4294967296)(hb:b<=1):
  Calls Tryz.prog 198 #[.int .u32 (x:Int),.int .u32 (y:Int),.int .u32 (b:Int)] w fun e w'=>e= .returned (.tuple #[.int .u32 (ja x y b:Nat),.int .u32 (lH x y b:Nat)])/\w=w':=by
 have hs:IntKind.u32.signed=false:=rfl
 go_enter Tryz.func198,Tryz.ntmps198
 go_wp2
 go_ret2
 exact⟨vV (by unfold ja;omega) (uy hx hy hb),rfl⟩
theorem Lv (x y b:Nat)(w:World)(hx:x<4294967296)(hy:y<4294967296)(hb:b<=1):
  Calls Tryz.prog 203 #[.int .u32 (x:Int),.int .u32 (y:Int),.int .u32 (b:Int)] w fun e w'=>e= .returned (.tuple #[.int .u32 ((x+y+b)%4294967296:Nat),.int .u32 ((x+y+b)/4294967296:Nat)])/\w=w':=by
 go_enter Tryz.func203,Tryz.ntmps203
 go_wp2
 go_ret2
 exact⟨vV (by omega) (by omega),rfl⟩
theorem Es {h l d:Nat}(hh:h<d)(hl:l<4294967296):(4294967296*h+l)/d<4294967296:=by
 rw[eX (by omega)];have:4294967296*(h+1)<=4294967296*d:=cT _ hh;omega
theorem Lw (h l d:Nat)(w:World)(hh:h<d)(hl:l<4294967296)(hd:d<4294967296):
  Calls Tryz.prog 201 #[.int .u32 (h:Int),.int .u32 (l:Int),.int .u32 (d:Int)] w fun e w'=>e= .returned (.tuple #[.int .u32 ((4294967296*h+l)/d:Nat),.int .u32 ((4294967296*h+l)%d:Nat)])/\∃n,w'=w.drewN n:=by
 have TN:(0:Int)<d:=by omega
 have h1:((d:Int) !=0)=true:=by simp;omega
 have h2:¬(d:Int)<=h:=by omega
 have h3:=jm (a:=h) (b:=l) (by omega) hl;rw[show((4294967296*h:Nat):Int)=(h:Int)*4294967296 by omega] at h3
 go_enter Tryz.func201,Tryz.ntmps201
 go_wp2
 go_quiet (fail)
 go_wp2
 go_ret2
 have hq:=Es hh hl;have hr:=bK (4294967296*h+l) (show 0<d by omega)
 have e1:(4294967296*(h:Int)+l)/d=((4294967296*h+l)/d:Nat):=by rw[show 4294967296*(h:Int)+l=((4294967296*h+l:Nat):Int) by omega,<-jl]
 have e2:(4294967296*(h:Int)+l)%d=((4294967296*h+l)%d:Nat):=by rw[show 4294967296*(h:Int)+l=((4294967296*h+l:Nat):Int) by omega,<-Int.natCast_emod]
 exact⟨vV (by rw[e1];exact Int.emod_eq_of_lt (Int.natCast_nonneg _) (by omega)) (by rw[e2];exact Int.emod_eq_of_lt (Int.natCast_nonneg _) (by omega)),nq,rfl⟩
theorem GK (x b:Nat)(w:World)(hx:x<4294967296)(hb:b<=1):
  Calls Tryz.prog 198 #[.int .u32 (x:Int),.int .u32 0,.int .u32 (b:Int)] w fun e w'=>e= .returned (.tuple #[.int .u32 (ja x 0 b:Nat),.int .u32 (lH x 0 b:Nat)])/\w=w':=
 sN x 0 b w hx (by decide) hb
theorem oV {x y b:Int}{X Y Z:Nat}(ex:x=(X:Int))(ey:y=(Y:Int))(eb:b=(Z:Int))(hx:X<4294967296)(hy:Y<4294967296)(hb:Z<=1)(w:World):
  Calls Tryz.prog 198 #[.int .u32 x,.int .u32 y,.int .u32 b] w fun e w'=>e= .returned (.tuple #[.int .u32 (ja X Y Z:Nat),.int .u32 (lH X Y Z:Nat)])/\w=w':=by
 subst ex ey eb;exact sN X Y Z w hx hy hb
end Go.Proofs.YtclbiihcbfnjmaaGreat
namespace Go.Proofs.YtclbiihcbfnjmaaGreat
open Go.RowKit

def pk (f:Nat->Nat)(j q:Nat):Nat:=(if 2*q<j then f (2*q) else 0)+65536*(if 2*q+1<j then f (2*q+1) else 0)

theorem Wy {f:Nat->Nat}{j:Nat}(hf:∀i,f i<65536)(hp:j%2=0):bits .or .u32 ((pk f j (j/2):Nat):Int) (((f j:Nat):Int)%4294967296)=((pk f (j+1) (j/2):Nat):Int):=by
 have h1:=hf j;have h2:=hf (j+1)
 have e1:pk f j (j/2)=0:=by unfold pk;rw[if_neg (by omega),if_neg (by omega)]
 have e2:pk f (j+1) (j/2)=f j:=by unfold pk;rw[if_pos (by omega),if_neg (by omega),show 2*(j/2)=j by omega];omega
 rw[e1,e2,show((f j:Nat):Int)%4294967296=((f j:Nat):Int) by omega];exact Er (by omega)
theorem adC {f:Nat->Nat}{j:Nat}(hf:∀i,f i<65536)(hp:j%2=1):bits .or .u32 ((pk f j (j/2):Nat):Int) (((f j:Nat):Int)*65536%4294967296)=((pk f (j+1) (j/2):Nat):Int):=by
 have h1:=hf j;have h2:=hf (2*(j/2))
 have e1:pk f j (j/2)=f (2*(j/2)):=by unfold pk;rw[if_pos (by omega),if_neg (by omega)];omega
 have e2:pk f (j+1) (j/2)=f (2*(j/2))+65536*f j:=by
  unfold pk;rw[if_pos (by omega),if_pos (by omega)]
  have e:2*(j/2)+1=j:=by omega
  rw[e]
 rw[e1,e2,show((f j:Nat):Int)*65536%4294967296=((65536*f j:Nat):Int) by omega];exact GI h2 h1
theorem Et {f:Nat->Nat}{j q:Nat}(h:q≠j/2):pk f (j+1) q=pk f j q:=by
 unfold pk
 have e1:(2*q<j+1)↔(2*q<j):=by omega
 have e2:(2*q+1<j+1)↔(2*q+1<j):=by omega
 simp only[e1,e2]

theorem Lx (A:Option Addr)(n c:Nat)(f:Nat->Nat)(w:World)(h:Rd w.heap.size .u16 w A n f)(hf:∀i,f i<65536)(hn:n<=1000000):
  Calls Tryz.prog 124 #[.slice A n c] w fun e w'=>e= .returned (.slice (some ⟨w.heap.size,0,none⟩) ((n+1)/2) ((n+1)/2))/\Row w' w.heap.size 171 .u32 ((n+1)/2) ((n+1)/2) (pk f n)/\Below w.heap.size w w':=by
 have hmk:=Ei ((n+1)/2) ((n+1)/2) (aq _) (by omega);rw[show(((n+1)/2:Nat):Int)=((n:Int)+1)/2 by omega] at hmk
 go_enter Tryz.func124,Tryz.ntmps124
 go_wp2
 clear hmk
 go_loopw [13] (fun i wr=>∃j:Nat,j<=n/\i= .int .i64 j/\Row wr w.heap.size 171 .u32 ((n+1)/2) ((n+1)/2) (pk f j)/\Below w.heap.size w wr) (fun i _=>n-(intOf i).toNat)
 case atStart=>exact⟨0,bF _,rfl,Row.made.congr fun j _=>by simp[pk],(aU _ _).alloc (aq _) _⟩
 case round=>
  obtain⟨j,hj,rfl,hrow,bh⟩:=hrel
  by_cases hlt:j<n
  ·
   obtain⟨b,o,rfl,hb,hcell⟩:=h (by omega);have qM:=(bh.cell (p:=⟨b,o+j,none⟩) hb).trans (hcell j hlt);have oW:=hrow.cell (i:=j/2) (by omega);have hc3:=hrow.frozen (j/2);have hfj:=hf j
   rcases Nat.mod_two_eq_zero_or_one j with hp|hp
   ·
    go_wp2
    go_region
    go_wp2
    go_roundw
    case rel=>
     rw[Wy hf hp];exact⟨j+1,by omega,by go_num,hrow.drew.set rfl fun q _ hq=>Et hq,bh.drew.setCell (aq _) _⟩
    case measure=>simp[intOf];omega
   ·
    go_wp2
    go_region
    go_wp2
    go_roundw
    case rel=>
     rw[adC hf hp];exact⟨j+1,by omega,by go_num,hrow.drew.set rfl fun q _ hq=>Et hq,bh.drew.setCell (aq _) _⟩
    case measure=>simp[intOf];omega
  ·
   obtain rfl:j=n:=by omega
   go_wp2
   go_ret
   exact⟨rfl,hrow,bh⟩
theorem adD (x q:Nat)(hq:q<(ln ai x+1)/2):pk (aB ai x) (ln ai x) q=aB ah x q:=by
 rw[sK,pk,if_pos (by omega)]
 by_cases h:2*q+1<ln ai x
 ·rw[if_pos h]
 ·rw[if_neg h,cU (j:=2*q+1) ((bJ aA).1 (by omega))]
theorem gI (A:Option Addr)(c x:Nat)(w:World)(h:aJ w A x)(hn:ln ai x<=1000000):
  Calls Tryz.prog 124 #[.slice A (ln ai x) c] w (TM w x):=
 (Lx A _ c _ w h (fun i=>bu x i) hn).mono fun e w' ⟨he,hr,hb⟩=>by
  refine⟨some ⟨w.heap.size,0,none⟩,(ln ai x+1)/2,by rw[he,lC],by rw[lC];exact aq _, ?_,hb⟩
  have h1:=hr.congr (f':=aB ah x) fun j hj=>adD x j hj
  unfold aO;rw[lC];exact h1.rd (aq _) h1.lt
end Go.Proofs.YtclbiihcbfnjmaaGreat
namespace Go.Proofs.YtclbiihcbfnjmaaGreat
open Go.RowKit

def BH (x d:Nat)(w:World)(e:Ending)(w':World):Prop:=
 ∃A c,e= .returned (.tuple #[.slice A (ln ah (x/d)) c,.int .u32 ((x%d:Nat):Int)])/\ln ah (x/d)<=c/\aO w' A (x/d)/\Below w.heap.size w w'
def GL (x d:Nat)(w:World)(e:Ending)(w':World):Prop:=
 ∃c,e= .returned (.tuple #[.slice (some ⟨w.heap.size,0,none⟩) (ln ah (x/d)) c,.int .u32 ((x%d:Nat):Int)])/\ln ah (x/d)<=c/\aO w' (some ⟨w.heap.size,0,none⟩) (x/d)/\Below w.heap.size w w'
def qst (x d k j:Nat):Nat:=if k<=j then aB ah (x/d) j else 0
theorem adE (x d k j:Nat):qst x d k j<4294967296:=by unfold qst;split;exact aV ..;decide
theorem Ly {n:Nat}(x d:Nat)(h:x<ah^n):vs ah (qst x d 0) n=x/d:=by
 rw[fo (g:=aB ah (x/d)) fun j _=>by simp[qst]];exact cR (eH (Nat.div_le_self ..) h)

theorem Eu (A:Option Addr)(c x d:Nat)(w:World)(hx:aO w A x)(hd:0<d)(rY:d<4294967296)(hn:ln ah x<=1000000):
  Calls Tryz.prog 193 #[.slice A (ln ah x) c,.int .u32 (d:Int)] w (GL x d w):=by
 have hmk:=Ei (ln ah x) (ln ah x) (aq _) (by omega);have HN:=af (Ly x d (bt aE x));have HL:=af (bt aE x)
 go_enter Tryz.func193,Tryz.ntmps193
 go_wp2
 clear hmk
 go_loopw [7,8] (fun r i wr=>∃k:Nat,k<=ln ah x/\i= .int .i64 ((k:Int)-1)/\r= .int .u32 ((x/ah^k%d:Nat):Int)/\Row wr w.heap.size 171 .u32 (ln ah x) (ln ah x) (qst x d k)/\Below w.heap.size w wr) (fun _ i _=>(intOf i+1).toNat)
 case atStart=>exact⟨ln ah x,aq _,rfl,by rw[jI HL.out];simp,Row.made.congr fun j hj=>by simp only[qst];rw[if_neg (by omega)],(aU _ _).alloc (aq _) _⟩
 case round=>
  obtain⟨k,hk,rfl,rfl,hrow,bh⟩:=hrel
  rcases dF k with rfl|RC
  ·
   have ht:=gH (some ⟨w.heap.size,0,none⟩) (ln ah x) (ln ah x) _ wr (hrow.rd (aq _) hrow.lt) (fun i _=>adE ..) (aq _) (by omega);rw[HN.out] at ht;have HT:=af ht;clear ht;go_wp2_with fail
   refine HT.out.mono ?_
   rintro e w3 ⟨rfl,rfl,ia,hlc⟩
   go_wp2
   go_ret2
   exact⟨_,rfl,hlc,ia,bh⟩
  ·
   obtain⟨j,rfl⟩:∃j,k=j+1:=⟨k-1,by omega⟩
   have ej:(((j+1:Nat):Int)-1)=(j:Int):=by omega
   rw[ej];obtain⟨b,o,rfl,hb,hca⟩:=hx (by omega);have c0:=(bh.cell (p:=⟨b,o+j,none⟩) hb).trans (hca j (by omega));have c1:=hrow.cell (i:=j) (by omega);have c2:=hrow.frozen j;have hr:=bK (x/ah^(j+1)) hd;have hl:=aV x j;obtain⟨s1,s2⟩:=qs (B:=ah) (x:=x) (k:=j) hd;have hq:=Es hr hl;have tX:=Lw _ _ _ wr hr hl rY;rw[show 4294967296*(x/ah^(j+1)%d)+aB ah x j=ah*(x/ah^(j+1)%d)+aB ah x j by rfl] at tX hq;rw[fm (show _<ah by exact hq)] at s1;rw[s1,s2] at tX;have HC:=af tX;clear tX hq s1 s2;go_wp2_with fail
   refine HC.out.mono ?_
   rintro e w2 ⟨rfl,nq,rfl⟩
   go_wp2
   go_roundw
   case rel=>exact⟨j,by omega,by go_num,rfl,(hrow.drewN _).set (by simp[qst]) fun q _ hq=>by simp only[qst,show j<=q↔j+1<=q by omega],(dG bh _).setCell (aq _) _⟩
   case measure=>simp[intOf]
theorem BI (A:Option Addr)(c x d:Nat)(w:World)(hx:aO w A x)(hd:0<d)(rY:d<4294967296)(hn:ln ah x<=1000000):
  Calls Tryz.prog 193 #[.slice A (ln ah x) c,.int .u32 (d:Int)] w (BH x d w):=
 (Eu A c x d w hx hd rY hn).mono fun _ _ ⟨c,h1,h2,h3,h4⟩=>⟨_,c,h1,h2,h3,h4⟩
end Go.Proofs.YtclbiihcbfnjmaaGreat
namespace Go.Proofs.YtclbiihcbfnjmaaGreat

def lz (x:Nat):Nat:=32-Lib.bitLen x
theorem JK {x:Nat}(h0:0<x)(h:x<4294967296):lz x<32/\2147483648<=x*2^lz x/\x*2^lz x<4294967296/\(32-(Lib.bitLen x:Int))=(lz x:Int):=by
 have hb:=Lib.bitLenAux_bounds 64 x (by omega) (by omega);have h32:=Lib.bitLen_le x 32 (by decide) h;unfold lz;unfold Lib.bitLen at h32⊢
 generalize Lib.bitLenAux 64 x=L at*
 obtain⟨h1,h2,h3⟩:=hb
 have e1:2^(L-1)*2^(32-L)=2147483648:=by rw[<-dK,show L-1+(32-L)=31 by omega]
 have e2:2^L*2^(32-L)=4294967296:=by rw[<-dK,show L+(32-L)=32 by omega]
 have h4:=dV (2^(32-L)) h2;have h5:=sI h3 (bM (n:=32-L) (show 0<2 by decide));rw[e1] at h4;rw[e2] at h5;exact⟨by omega,h4,h5,by omega⟩
theorem Ev {b n s:Nat}(hn:n=ln ah b)(hb:0<b)(hs:s=lz (aB ah b (n-1))):s<32/\b*2^s<ah^n/\2147483648<=aB ah (b*2^s) (n-1)/\2147483648*ah^(n-1)<=b*2^s:=by
 subst hn;have hn0:=(dM aE).2 hb;have pJ:=rq aE hb;obtain⟨h1,h2,h3,_⟩:=JK (x:=aB ah b (ln ah b-1)) (by omega) (aV ..);rw[<-hs] at h1 h2 h3;have hlt:=bt aE b;have hp:0<ah^(ln ah b-1):=bM (by decide)
 have hsplit:b=ah^(ln ah b-1)*aB ah b (ln ah b-1)+b%ah^(ln ah b-1):=by
  have h4:=eK b (ah^(ln ah b-1))
  have h5:b/ah^(ln ah b-1)<ah:=by
   rw[eX hp,<-Nat.pow_succ',show(ln ah b-1).succ=ln ah b by omega];exact hlt
  rw[aB,fm h5];exact h4.symm
 have hm:=bK b hp
 have e1:ah^ln ah b=ah^(ln ah b-1)*ah:=by rw[<-cF,show(ln ah b-1).succ=ln ah b by omega]
 have hV:b*2^s=ah^(ln ah b-1)*(aB ah b (ln ah b-1)*2^s)+b%ah^(ln ah b-1)*2^s:=by
  conv=>lhs;rw[hsplit]
  rw[en,cA]
 have hm2:b%ah^(ln ah b-1)*2^s<ah^(ln ah b-1)*2^s:=sI hm (bM (by decide))
 have Wz:aB ah b (ln ah b-1)*2^s+2^s<=4294967296:=by
  have e2:=lD h1
  have e3:aB ah b (ln ah b-1)<2^(32-s):=by
   have:aB ah b (ln ah b-1)*2^s<2^(32-s)*2^s:=by rw[bC (2^(32-s)),<-e2];exact h3
   exact vS this
  have e4:(aB ah b (ln ah b-1)+1)*2^s<=2^(32-s)*2^s:=dV _ e3;rw[bC (2^(32-s)),<-e2,en,fI] at e4;exact e4
 have xy:b*2^s<ah^ln ah b:=by
  have h6:ah^(ln ah b-1)*(aB ah b (ln ah b-1)*2^s+2^s)<=ah^(ln ah b-1)*ah:=cT _ Wz;rw[aY] at h6;omega
 have hge:2147483648*ah^(ln ah b-1)<=b*2^s:=by
  have h7:ah^(ln ah b-1)*2147483648<=ah^(ln ah b-1)*(aB ah b (ln ah b-1)*2^s):=cT _ h2;rw[bC 2147483648];omega
 refine⟨h1,xy, ?_,hge⟩
 have h8:b*2^s/ah^(ln ah b-1)<ah:=by rw[eX hp,bC ah,<-e1];exact xy
 rw[aB,fm h8,qZ hp];exact hge
theorem Lz {A2 V la n a s:Nat}(ha:a<ah^la)(hA:A2=a*2^s)(hs:s<32)(hn:0<n)(hna:n<=la)(hV:2147483648*ah^(n-1)<=V):A2/ah^(la-n+1)<V:=by
 have h1:2^s<=2147483648:=jH (by decide) (show s<=31 by omega)
 have h2:A2<ah^la*2^s:=by rw[hA];exact sI ha (bM (by decide))
 have h3:ah^la*2^s<=ah^la*2147483648:=cT _ h1;rw[eX (bM (by decide))];have h4:2147483648*ah^(n-1)*ah^(la-n+1)<=V*ah^(la-n+1):=dV _ hV
 have h5:2147483648*ah^(n-1)*ah^(la-n+1)=ah^la*2147483648:=by
  rw[cA,<-dK,show n-1+(la-n+1)=la by omega,bC]
 omega
theorem WB {a b la n:Nat}(ha:a<ah^la)(hb:ah^(n-1)<=b)(hn:0<n)(hna:n<=la):a/b<ah^(la-n+1):=by
 have hp:0<ah^(n-1):=bM (by decide);rw[eX (by omega)];have h1:ah^(la-n+1)*ah^(n-1)<=ah^(la-n+1)*b:=cT _ hb;rw[<-dK,show la-n+1+(n-1)=la by omega] at h1;omega
theorem xC {R s i:Nat}(hs:s<32):(aB ah R (i+1)*4294967296+aB ah R i)/2^s%4294967296=aB ah (R/2^s) i:=by
 have hq:0<2^s:=bM (by decide);have hp:0<ah^i:=bM (by decide)
 have e1:R/2^s/ah^i=R/ah^i/2^s:=by rw[eJ,eJ,bC]
 have e2:R/ah^i=ah*(R/ah^(i+1))+aB ah R i:=by
  rw[aB,cF,<-eJ];exact(eK _ _).symm
 have e3:R/ah^(i+1)=ah*(R/ah^(i+2))+aB ah R (i+1):=by
  rw[aB,cF ah (i+1),<-eJ];exact(eK _ _).symm
 have e4:R/ah^i=2^s*(2^(32-s)*(ah*(R/ah^(i+2))))+(aB ah R (i+1)*4294967296+aB ah R i):=by
  rw[e2,e3,aY,<-cA (2^s),<-lD hs];have:ah*aB ah R (i+1)=aB ah R (i+1)*4294967296:=bC ..;omega
 rw[show aB ah (R/2^s) i=R/ah^i/2^s%ah by rw[aB,e1],e4,Nat.mul_add_div hq,gV (2^(32-s)) ah,Nat.mul_add_mod];rfl
end Go.Proofs.YtclbiihcbfnjmaaGreat
/-! Plain arithmetic behind simulate (the condition of Collins). -/
namespace Go.Proofs.YtclbiihcbfnjmaaGreat

structure uS (a b:Nat)(ev:Bool)(u0 u1 v0 v1:Nat):Prop where
 adF:u0<4294967296
 adG:u1<4294967296
 adH:v0<4294967296
 adI:v1<4294967296
 det:if ev then u0*v1=u1*v0+1 else u1*v0=u0*v1+1
 le0:if ev then v0*b<=u0*a else u0*a<=v0*b
 le1:if ev then u1*a<=v1*b else v1*b<=u1*a
 lt:if ev then v1*b-u1*a<u0*a-v0*b else u1*a-v1*b<v0*b-u0*a
 aqV:1<=u1

structure Sim (a b al be:Nat)(ev:Bool)(u0 u1 u2 v0 v1 v2 x1 x2:Nat):Prop where
 le:x2<=x1
 sum:v2*x1+v1*x2=al
 e1:if ev then x1+u1*al=v1*be else x1+v1*be=u1*al
 e2:if ev then x2+v2*be=u2*al else x2+u2*al=v2*be
 det:if ev then u2*v1=u1*v2+1 else u1*v2=u2*v1+1
 c2:u2<=v2
 c12:u1+u2<=v1+v2
 aij:1<=v2
 pos:1<=u1+u2
 nxt:v1=0\/1<=u2
 adG:u1<4294967296
 adI:v1<4294967296
 adF:u0<4294967296
 adH:v0<4294967296
 out:v0=0\/uS a b ev u0 u1 v0 v1

theorem LC {a b al be:Nat}(hle:be<=al):Sim a b al be false 0 1 0 0 0 1 al be:=
 ⟨hle,by omega,by simp,by simp,by simp,by omega,by omega,by omega,by omega,.inl rfl,by omega,by omega,by omega,by omega,.inl rfl⟩

theorem gap {K a b al be al' TP u v x:Nat}(ha:a=K*al+al')(hb:b=K*be+TP)(hx:x+v*be=u*al):
  K*x+v*b<=u*a+v*TP/\u*a+v*TP=K*x+v*b+u*al':=by
 subst ha hb
 have e:K*(x+v*be)=K*(u*al):=by rw[hx]
 rw[aY] at e
 have e1:u*(K*al+al')=K*(u*al)+u*al':=by rw[aY,gV]
 have e2:v*(K*be+TP)=K*(v*be)+v*TP:=by rw[aY,gV]
 omega

theorem RE {K a b al be al' TP:Nat}(ha:a=K*al+al')(hb:b=K*be+TP)(ha':al'<K)(hb':TP<K)(hal:al<18446744073709551616)
  {ev:Bool} {u0 u1 u2 v0 v1 v2 x1 x2:Nat} (h:Sim a b al be ev u0 u1 u2 v0 v1 v2 x1 x2) (t1:v2<=x2) (t2:v1+v2<=x1-x2):
  Sim a b al be (!ev) u1 u2 (u1+x1/x2*u2) v1 v2 (v1+x1/x2*v2) x2 (x1%x2):=by
 obtain⟨hle,hsum,he1,RF,RG,oW,aik,nO,hpos,aoA,hu1,Lm,hu0,hv0,hout⟩:=h
 have Ls:0<x2:=by omega
 have hq:1<=x1/x2:=(qZ Ls).2 (by omega);have hdm:=eK x1 x2;have hmod:=bK x1 Ls
 have aad:v2<4294967296:=by
  rcases cX v2 4294967296 with g|g
  ·exact g
  ·
   have h1:4294967296*4294967296<=v2*x1:=dU g (by omega);omega
 generalize x1/x2=q at*
 generalize x1%x2=r at*
 have m1:(v1+q*v2)*x2=v1*x2+v2*(x2*q):=by rw[en,bC q,cA,bC q]
 have m2:v2*x1=v2*(x2*q)+v2*r:=by rw[<-aY,hdm]
 have hq2:u2<=q*u2:=kj _ hq;have TJ:v2<=q*v2:=kj _ hq
 have hc:q*u2+v2<=q*v2+u2:=by
  obtain⟨p,rfl⟩:∃p,q=p+1:=⟨q-1,by omega⟩
  have:=cT p oW;rw[gj,gj];omega
 refine⟨by omega,by omega, ?_, ?_, ?_,by omega,by omega,by omega,by omega,.inr (by omega),by omega,aad,hu1,Lm, ?_⟩
 ·
  cases ev
  ·simpa using RF
  ·simpa using RF
 ·
  have k1:(u1+q*u2)*al=u1*al+q*(u2*al):=by rw[en,cA]
  have k2:(v1+q*v2)*be=v1*be+q*(v2*be):=by rw[en,cA]
  have k3:x2*q=q*x2:=bC _ _
  cases ev
  ·
   simp only[Bool.false_eq_true,if_false] at he1 RF;simp only[Bool.not_false,if_true];rw[k1,k2,<-RF,aY];omega
  ·
   simp only[if_true] at he1 RF;simp only[Bool.not_true,Bool.false_eq_true,if_false];rw[k1,k2,<-RF,aY];omega
 ·
  have k1:(u1+q*u2)*v2=u1*v2+q*(u2*v2):=by rw[en,cA]
  have k2:u2*(v1+q*v2)=u2*v1+q*(u2*v2):=by rw[aY,gV]
  cases ev
  ·
   simp only[Bool.false_eq_true,if_false] at RG;simp only[Bool.not_false,if_true];omega
  ·
   simp only[if_true] at RG;simp only[Bool.not_true,Bool.false_eq_true,if_false];omega
 ·
  rcases dF v1 with h0|h0
  ·exact .inl h0
  ·
   refine .inr ⟨hu1,by omega,Lm,aad, ?_, ?_, ?_, ?_,by omega⟩
   ·
    cases ev
    ·simpa using RG
    ·simpa using RG
   all_goals
    have y1:K*x1=K*x2+K*(x1-x2):=by rw[<-aY];congr 1;omega
    have y2:K*v2<=K*x2:=cT _ t1;have y3:K*(v1+v2)<=K*(x1-x2):=cT _ t2;have y4:K*(u1+u2)<=K*(v1+v2):=cT _ aik;have y5:K*u2<=K*v2:=cT _ oW;rw[aY] at y3;rw[aY,aY] at y4
    have z1:v1*TP<=K*v1:=by rw[bC K];exact cT _ (bG hb')
    have z2:v2*TP<K*v2:=by rw[bC K];exact vR hb' nO
    have z3:u1*al'<=K*u1:=by rw[bC K];exact cT _ (bG ha')
    have z4:u2*al'<=K*u2:=by rw[bC K];exact cT _ (bG ha')
    have z5:u1*al'+u2*al'<K*(u1+u2):=by rw[<-en,bC K];exact vR ha' hpos
    rw[aY] at z5
    cases ev
    ·
     simp only[Bool.false_eq_true,if_false] at he1 RF;have g1:=gap ha hb he1;have g2:=gap hb ha RF;simp only[Bool.not_false,if_true];omega
    ·
     simp only[if_true] at he1 RF;have g1:=gap hb ha he1;have g2:=gap ha hb RF;simp only[Bool.not_true,Bool.false_eq_true,if_false];omega

theorem RJ {a b al be:Nat}{ev:Bool}{u0 u1 u2 v0 v1 v2 x1 x2:Nat}(h:Sim a b al be ev u0 u1 u2 v0 v1 v2 x1 x2)(hal:al<18446744073709551616)(h2:1<=x2):
  v1+v2<18446744073709551616/\v1+x1/x2*v2<18446744073709551616/\u1+x1/x2*u2<18446744073709551616:=by
 obtain⟨hle,hsum,he1,RF,RG,oW,aik,nO,hpos,aoA,hu1,Lm,hu0,hv0,hout⟩:=h;have hq:1<=x1/x2:=(qZ h2).2 (by omega);have hdm:=eK x1 x2
 generalize x1/x2=q at*
 generalize x1%x2=r at*
 have m1:(v1+q*v2)*x2=v1*x2+v2*(x2*q):=by rw[en,bC q,cA,bC q]
 have m2:v2*x1=v2*(x2*q)+v2*r:=by rw[<-aY,hdm]
 have m3:v1+q*v2<=(v1+q*v2)*x2:=Nat.le_mul_of_pos_right _ h2;have TJ:v2<=q*v2:=kj _ hq
 have hc:q*u2+v2<=q*v2+u2:=by
  obtain⟨p,rfl⟩:∃p,q=p+1:=⟨q-1,by omega⟩
  have:=cT p oW;rw[gj,gj];omega
 omega

theorem GM {a b u0 u1 v0 v1:Nat}(h:uS a b true u0 u1 v0 v1):Nat.gcd (u0*a-v0*b) (v1*b-u1*a)=Nat.gcd a b/\v1*b-u1*a<b/\v1*b-u1*a<u0*a-v0*b/\u0*a-v0*b<=b:=by
 obtain⟨_,_,_,_,hd,h1,h2,h3,h4⟩:=h;simp only[if_true] at hd h1 h2 h3
 obtain⟨A,hA⟩:∃A,A=u0*a-v0*b:=⟨_,rfl⟩
 obtain⟨B,hB⟩:∃B,B=v1*b-u1*a:=⟨_,rfl⟩
 have eA:u0*a=A+v0*b:=by omega
 have eB:v1*b=B+u1*a:=by omega
 have d1:v1*(u0*a)=v1*A+v1*(v0*b):=by rw[eA,aY]
 have d2:v0*(v1*b)=v0*B+v0*(u1*a):=by rw[eB,aY]
 have d3:v1*(u0*a)=(u1*v0+1)*a:=by rw[<-hd,<-cA,bC v1]
 have d4:v0*(u1*a)=u1*v0*a:=by rw[<-cA,bC v0]
 have d5:v1*(v0*b)=v0*(v1*b):=gV ..;rw[en,fI] at d3
 have ea:a=v1*A+v0*B:=by omega
 have f1:u1*(u0*a)=u1*A+u1*(v0*b):=by rw[eA,aY]
 have f2:u0*(v1*b)=u0*B+u0*(u1*a):=by rw[eB,aY]
 have f3:u0*(v1*b)=(u1*v0+1)*b:=by rw[<-hd,<-cA]
 have f4:u1*(v0*b)=u1*v0*b:=by rw[<-cA]
 have f5:u0*(u1*a)=u1*(u0*a):=gV ..;rw[en,fI] at f3
 have eb:b=u1*A+u0*B:=by omega
 have hA1:A<=u1*A:=kj _ h4;rw[<-hA,<-hB];refine⟨Nat.dvd_antisymm (Nat.dvd_gcd ?_ ?_) (Nat.dvd_gcd ?_ ?_),by omega,by omega,by omega⟩
 ·rw[ea];exact Nat.dvd_add (gm (kn _ _) _) (gm (mR _ _) _)
 ·rw[eb];exact Nat.dvd_add (gm (kn _ _) _) (gm (mR _ _) _)
 ·rw[hA];exact Nat.dvd_sub (gm (kn _ _) _) (gm (mR _ _) _)
 ·rw[hB];exact Nat.dvd_sub (gm (mR _ _) _) (gm (kn _ _) _)
theorem LD {a b u0 u1 v0 v1:Nat}(h:uS a b false u0 u1 v0 v1):Nat.gcd (v0*b-u0*a) (u1*a-v1*b)=Nat.gcd a b/\u1*a-v1*b<b/\u1*a-v1*b<v0*b-u0*a/\v0*b-u0*a<=b:=by
 obtain⟨_,_,_,_,hd,h1,h2,h3,h4⟩:=h;simp only[Bool.false_eq_true,if_false] at hd h1 h2 h3
 obtain⟨A,hA⟩:∃A,A=v0*b-u0*a:=⟨_,rfl⟩
 obtain⟨B,hB⟩:∃B,B=u1*a-v1*b:=⟨_,rfl⟩
 have eA:v0*b=A+u0*a:=by omega
 have eB:u1*a=B+v1*b:=by omega
 have d1:v1*(v0*b)=v1*A+v1*(u0*a):=by rw[eA,aY]
 have d2:v0*(u1*a)=v0*B+v0*(v1*b):=by rw[eB,aY]
 have d3:v0*(u1*a)=(u0*v1+1)*a:=by rw[<-hd,<-cA,bC v0]
 have d4:v1*(u0*a)=u0*v1*a:=by rw[<-cA,bC v1]
 have d5:v1*(v0*b)=v0*(v1*b):=gV ..;rw[en,fI] at d3
 have ea:a=v1*A+v0*B:=by omega
 have f1:u1*(v0*b)=u1*A+u1*(u0*a):=by rw[eA,aY]
 have f2:u0*(u1*a)=u0*B+u0*(v1*b):=by rw[eB,aY]
 have f3:u1*(v0*b)=(u0*v1+1)*b:=by rw[<-hd,<-cA]
 have f4:u0*(v1*b)=u0*v1*b:=by rw[<-cA]
 have f5:u0*(u1*a)=u1*(u0*a):=gV ..;rw[en,fI] at f3
 have eb:b=u1*A+u0*B:=by omega
 have hA1:A<=u1*A:=kj _ h4;rw[<-hA,<-hB];refine⟨Nat.dvd_antisymm (Nat.dvd_gcd ?_ ?_) (Nat.dvd_gcd ?_ ?_),by omega,by omega,by omega⟩
 ·rw[ea];exact Nat.dvd_add (gm (kn _ _) _) (gm (mR _ _) _)
 ·rw[eb];exact Nat.dvd_add (gm (kn _ _) _) (gm (mR _ _) _)
 ·rw[hA];exact Nat.dvd_sub (gm (mR _ _) _) (gm (kn _ _) _)
 ·rw[hB];exact Nat.dvd_sub (gm (kn _ _) _) (gm (mR _ _) _)
end Go.Proofs.YtclbiihcbfnjmaaGreat
namespace Go.Proofs.YtclbiihcbfnjmaaGreat
open Go.RowKit

theorem GN {x n:Nat}(hn:3<=n)(hx:x<ah^n):x/ah^(n-3)=(aB ah x (n-1)*4294967296+aB ah x (n-2))*4294967296+aB ah x (n-3):=by
 obtain⟨m,rfl⟩:∃m,n=m+3:=⟨n-3,by omega⟩
 rw[show m+3-1=m+2 by omega,show m+3-2=m+1 by omega,show m+3-3=m by omega];unfold aB
 have e1:x/ah^(m+1)=x/ah^m/4294967296:=by rw[cF,<-eJ];rfl
 have e2:x/ah^(m+2)=x/ah^m/4294967296/4294967296:=by rw[cF,<-eJ,e1];rfl
 rw[e1,e2]
 have h3:x/ah^m<4294967296*4294967296*4294967296:=by
  rw[eX (bM (by decide))]
  have:ah^(m+3)=4294967296*4294967296*4294967296*ah^m:=by
   rw[dK,bC];rfl
  rw[<-this];exact hx
 generalize x/ah^m=y at*
 show y=(y/4294967296/4294967296%4294967296*4294967296+y/4294967296%4294967296)*4294967296+y%4294967296;omega
def FE (x n s:Nat):Nat:=x/(ah^(n-3)*2^(32-s))
theorem WC (P d:Nat){s:Nat}(hs:s<32):(P*4294967296+d)/2^(32-s)=P*2^s+d/2^(32-s):=by
 have e:4294967296=2^s*2^(32-s):=by rw[<-dK,show s+(32-s)=32 by omega]
 have e':P*4294967296=2^(32-s)*(P*2^s):=by rw[gV,bC (2^(32-s)),<-e]
 rw[e',Nat.mul_add_div (bM (by decide))]
theorem adJ {x n s:Nat}(hn:3<=n)(hs:s<32)(hx:x<ah^n):FE x n s=(aB ah x (n-1)*4294967296+aB ah x (n-2))*2^s+aB ah x (n-3)/2^(32-s):=by
 unfold FE;rw[<-eJ,GN hn hx];exact WC _ _ hs
theorem RK {x n s:Nat}(hn:3<=n)(hs:s<32)(hx:x*2^s<ah^n):FE x n s<18446744073709551616:=by
 unfold FE;rw[eX (dP (bM (by decide)) (bM (by decide)))]
 obtain⟨m,rfl⟩:∃m,n=m+3:=⟨n-3,by omega⟩
 rw[show m+3-3=m by omega]
 have e:4294967296=2^(32-s)*2^s:=by rw[<-dK,show 32-s+s=32 by omega]
 have e2:ah^(m+3)=18446744073709551616*(ah^m*2^(32-s))*2^s:=by
  have:ah^(m+3)=18446744073709551616*(ah^m*4294967296):=by
   rw[dK,gV];rfl
  rw[this,cA,cA (ah^m),<-e]
 rw[e2] at hx;exact vS hx
theorem WD {a b s:Nat}(hb:b<2^s)(ha:a*2^s+b<18446744073709551616):bits .or .u64 ((a*2^s:Nat):Int) (b:Int)=((a*2^s+b:Nat):Int):=by
 rw[u64_or_nat _ _ (by omega) (by omega),bC a,qt hb]

theorem RL {d1 d2 d3 s:Nat}(h1:d1<4294967296)(h2:d2<4294967296)(hl:d3/2^(32-s)<2^s)(hv:(d1*4294967296+d2)*2^s+d3/2^(32-s)<18446744073709551616):
  bits .or .u64 (IntKind.u64.wrap (bits .or .u64 ((d1:Int)*4294967296) (d2:Int)*2^s)) ((d3:Int)/2^(32-s))=(((d1*4294967296+d2)*2^s+d3/2^(32-s):Nat):Int):=by
 have o1:=jm h1 h2;rw[show((4294967296*d1:Nat):Int)=(d1:Int)*4294967296 by omega,bC 4294967296] at o1
 have e1:((d1*4294967296+d2:Nat):Int)*2^s=(((d1*4294967296+d2)*2^s:Nat):Int):=by rw[cM,Int.natCast_pow];rfl
 have e2:(d3:Int)/2^(32-s)=((d3/2^(32-s):Nat):Int):=by rw[jl,Int.natCast_pow];rfl
 have e3:IntKind.u64.wrap (((d1*4294967296+d2)*2^s:Nat):Int)=(((d1*4294967296+d2)*2^s:Nat):Int):=by
  have hY:(d1*4294967296+d2)*2^s<18446744073709551616:=eH (Nat.le_add_right _ _) hv;rw[jk];exact Int.emod_eq_of_lt (Int.natCast_nonneg _) (Int.ofNat_lt.2 hY)
 rw[o1,e1,e3,e2,WD hl hv]
theorem LF (x i:Nat)(A:Option Addr)(c g:Nat)(w:World)(hx:aO w A x)(hg:w.cell? ⟨g,0,none⟩=some (.slice A (ln ah x) c))(hl:ln ah x<=1000000)(hi:i<=1000000):
  Calls Tryz.prog 205 #[.int .i64 (i:Int),.pointer (some ⟨g,0,none⟩)] w fun e w'=>e= .returned (.int .u64 (aB ah x i:Nat))/\w=w':=by
 go_enter Tryz.func205,Tryz.ntmps205
 by_cases hlt:i<ln ah x
 ·
  obtain⟨b,o,rfl,hb,hc⟩:=hx (by omega);have c1:=hc i hlt;have d1:=aV x i;go_wp2_with fail
  go_ret
  exact⟨rfl,rfl⟩
 ·
  have h0:aB ah x i=0:=cU ((bJ aE).1 (by omega));have H0:=af h0;clear h0;go_wp2_with fail
  go_ret
  exact⟨by rw[H0.out];rfl,rfl⟩

theorem Ew (x n s:Nat)(A:Option Addr)(c:Nat)(w:World)(hx:aO w A x)(hl:ln ah x<=n)(hn:3<=n)(hn2:n<=1000000)(hs:s<32)(hb:x*2^s<ah^n):
  Calls Tryz.prog 199 #[.slice A (ln ah x) c,.int .i64 (n:Int),.int .i64 (s:Int)] w fun e w'=>e= .returned (.int .u64 (FE x n s:Nat))/\Below w.heap.size w w':=by
 have hxn:x<ah^n:=(bJ aE).1 hl;have hv:=RK hn hs hb;have he:=adJ hn hs hxn;have d1:=aV x (n-1);have d2:=aV x (n-2);have d3:=aV x (n-3);have hp:0<2^s:=bM (by decide)
 have Wz:aB ah x (n-3)/2^(32-s)<2^s:=by
  rw[eX (bM (by decide)),<-dK,show s+(32-s)=32 by omega];exact d3
 have hlo:=af Wz;have HE:=af he;have bl:Below w.heap.size w (w.alloc (.cells #[.slice A (ln ah x) c] 149)):=(aU _ w).alloc (aq _) _;have bx:=cell_of_one (eU w (.cells #[.slice A (ln ah x) c] 149))
 have hq:∀i m:Nat,i<=1000000->Calls Tryz.prog 205 #[.int .i64 (i:Int),.pointer (some ⟨w.heap.size,0,none⟩)] ((w.alloc (.cells #[.slice A (ln ah x) c] 149)).drewN m) fun e w'=>e= .returned (.int .u64 (aB ah x i:Nat))/\w'=(w.alloc (.cells #[.slice A (ln ah x) c] 149)).drewN m:=fun i m hi=>
  (LF x i A c w.heap.size ((w.alloc (.cells #[.slice A (ln ah x) c] 149)).drewN m) (aO.below hx (dG bl m)) bx (by omega) hi).mono fun _ _ ⟨a,b⟩=>⟨a,b.symm⟩
 have q1:=fun m=>hq (n-1) m (by omega)
 have q2:=fun m=>hq (n-2) m (by omega)
 have q3:=fun m=>hq (n-3) m (by omega)
 rw[show((n-1:Nat):Int)=(n:Int)-1 by omega] at q1;rw[show((n-2:Nat):Int)=(n:Int)-2 by omega] at q2;rw[show((n-3:Nat):Int)=(n:Int)-3 by omega] at q3;have Q1:=af q1;have Q2:=af q2;have Q3:=af q3;clear q1 q2 q3 hq he Wz hxn hb
 go_enter Tryz.func199,Tryz.ntmps199
 go_wp2_with fail
 go_quiet ((go_at_call 205;first|(with_reducible exact Calls.quiet_of_same (Q1.out _))|(with_reducible exact Calls.quiet_of_same (Q2.out _))|(with_reducible exact Calls.quiet_of_same (Q3.out _))))
 clear Q1 Q2 Q3 bx
 go_wp2
 go_ret
 exact⟨gM (by rw[RL d1 d2 hlo.out (by rw[<-HE.out];exact hv),HE.out]),dG bl nq⟩
end Go.Proofs.YtclbiihcbfnjmaaGreat
namespace Go.Proofs.YtclbiihcbfnjmaaGreat
open Go.RowKit

def TQ (x n k j:Nat):Nat:=if j<k then aB ah (x*2^n) j else if j=k then Ef x n k else 0
theorem adK {s y n:Nat}(hn:n<32)(hs:s<2^n):bits .or .u32 (s:Int) ((y*2^n%ah:Nat):Int)=((s+y*2^n%ah:Nat):Int):=by
 have h1:2^n<=2^31:=jH (by decide) (by omega);have h2:y*2^n%ah<4294967296:=bK _ (by decide);rw[u32_or_nat _ _ (by omega) h2,Eg hn,tW hs]

theorem tY (A:Option Addr)(c x n:Nat)(w:World)(hx:aO w A x)(hn:n<32)(hl:ln ah x<=1000000):
  Calls Tryz.prog 195 #[.slice A (ln ah x) c,.int .i64 (n:Int)] w fun e w'=>
   e= .returned (.slice (some ⟨w.heap.size,0,none⟩) (ln ah x+1) (ln ah x+1))/\Row w' w.heap.size 171 .u32 (ln ah x+1) (ln ah x+1) (aB ah (x*2^n))/\Below w.heap.size w w':=by
 have hmk:=Ei (ln ah x+1) (ln ah x+1) (aq _) (by omega);rw[show((ln ah x+1:Nat):Int)=(ln ah x:Int)+1 by omega] at hmk;have RM:2^n<=2147483648:=jH (by decide) (show n<=31 by omega)
 go_enter Tryz.func195,Tryz.ntmps195
 go_wp2
 clear hmk
 go_loopw [15] (fun i wr=>∃k:Nat,k<=ln ah x/\i= .int .i64 k/\Row wr w.heap.size 171 .u32 (ln ah x+1) (ln ah x+1) (TQ x n k)/\Below w.heap.size w wr) (fun i _=>ln ah x-(intOf i).toNat)
 case atStart=>exact⟨0,bF _,rfl,Row.made.congr fun j _=>by simp[TQ,Rz],(aU _ _).alloc (aq _) _⟩
 case round=>
  obtain⟨k,hk,rfl,hrow,bh⟩:=hrel
  by_cases hlt:k<ln ah x
  ·
   obtain⟨b,o,rfl,hb,hca⟩:=hx (by omega);have c0:=(bh.cell (p:=⟨b,o+k,none⟩) hb).trans (hca k hlt);have c1:=hrow.cell (i:=k) (by omega);have c2:=hrow.frozen k;have c3:=hrow.cell (i:=k+1) (by omega);have c4:=hrow.frozen (k+1);rw[show TQ x n k k=Ef x n k by simp[TQ]] at c1;rw[show TQ x n k (k+1)=0 by simp only[TQ];rw[if_neg (by omega),if_neg (by omega)]] at c3;have hxk:=aV x k;have hsh:=BA x n k;have hm:aB ah x k*2^n<=4294967295*2147483648:=dU (by omega) RM
   have hmI:((aB ah x k:Nat):Int)*2^n<18446744073709551616:=by
    have:((aB ah x k:Nat):Int)*2^n=((aB ah x k*2^n:Nat):Int):=by rw[cM,Int.natCast_pow];rfl
    omega
   have hw:IntKind.u64.wrap (((aB ah x k:Nat):Int)*2^n)=((aB ah x k*2^n:Nat):Int):=by
    have e:((aB ah x k:Nat):Int)*2^n=((aB ah x k*2^n:Nat):Int):=by rw[cM,Int.natCast_pow];rfl
    rw[e,jk];omega
   have e1:bits .or .u32 ((Ef x n k:Nat):Int) (((aB ah x k*2^n:Nat):Int)%4294967296)=((aB ah (x*2^n) k:Nat):Int):=by
    rw[tT hn,<-adK hn hsh];rfl
   have e2:((aB ah x k*2^n:Nat):Int)/4294967296%4294967296=((Ef x n (k+1):Nat):Int):=by
    have h1:=BA x n (k+1)
    have h2:((aB ah x k*2^n:Nat):Int)/4294967296=((Ef x n (k+1):Nat):Int):=by rw[RA hn];rfl
    omega
   have HW:=af hw;have E1:=af e1;have E2:=af e2;clear hm RM hw e1 e2 hmI;go_wp2_with fail
   go_roundw
   case rel=>
    rw[HW.out,E1.out,E2.out];refine⟨k+1,by omega,by go_num, ?_,(bh.setCell (aq _) _).setCell (aq _) _⟩
    exact(hrow.set (f':=fun j=>if j=k then aB ah (x*2^n) k else TQ x n k j) (by simp) fun j _ hj=>by simp[hj]).set (by simp[TQ]) fun j _ hj=>by
     simp only[TQ]
     by_cases e:j=k
     ·subst e;simp
     ·simp only[e,if_false,hj,show j<k+1↔j<k by omega]
   case measure=>simp[intOf];omega
  ·
   obtain rfl:k=ln ah x:=by omega
   have pJ:aB ah (x*2^n) (ln ah x)=Ef x n (ln ah x):=by
    rw[tT hn,cU (bt aE x)];simp
   have HT:=af pJ;clear pJ
   go_wp2
   go_ret
   refine⟨rfl,hrow.congr fun j hj=> ?_,bh⟩;simp only[TQ]
   by_cases e:j<ln ah x
   ·rw[if_pos e]
   ·
    obtain rfl:j=ln ah x:=by omega
    rw[if_neg e,if_pos rfl,HT.out]
end Go.Proofs.YtclbiihcbfnjmaaGreat
namespace Go.Proofs.YtclbiihcbfnjmaaGreat

theorem LG {B E top sec vl head u0 ul digit rest V U:Nat}(hV:V=(top*B+sec)*E+vl)(hU:U=(head*B+u0)*E+ul)
  (hvl:vl<E) (pJ:0<top) (hd:digit<B) (hr:digit*top+rest=head) (ht:digit*sec<=rest*B+u0):digit*V<U+V:=by
 have h1:digit*(top*B+sec)<=head*B+u0:=by
  rw[<-hr,aY,en,<-cA];omega
 have h2:digit*(top*B+sec)*E<=(head*B+u0)*E:=dV E h1;have h3:digit*vl<=digit*E:=cT _ (by omega);have h4:digit*E<=(B-1)*E:=dV E (by omega)
 have h5:B*E<=(top*B+sec)*E:=dV E (by
  have:1*B<=top*B:=dV B pJ
  omega)
 have h6:(B-1)*E=B*E-E:=Nat.sub_one_mul ..
 have h7:digit*V=digit*(top*B+sec)*E+digit*vl:=by rw[hV,aY,cA]
 have h8:E<=B*E:=kj _ (by omega);omega
theorem RN {B E top sec vl head u0 ul digit rest V U:Nat}(hV:V=(top*B+sec)*E+vl)(hU:U=(head*B+u0)*E+ul)
  (hul:ul<E) (hr:digit*top+rest=head) (ht:rest*B+u0<digit*sec):U<digit*V:=by
 have h1:head*B+u0+1<=digit*(top*B+sec):=by
  rw[<-hr,aY,en,<-cA];omega
 have h2:(head*B+u0+1)*E<=digit*(top*B+sec)*E:=dV E h1
 have h7:digit*V=digit*(top*B+sec)*E+digit*vl:=by rw[hV,aY,cA]
 have h8:(head*B+u0+1)*E=(head*B+u0)*E+E:=gj ..;omega
theorem GQ {B E top sec vl head u0 ul V U:Nat}(hV:V=(top*B+sec)*E+vl)(hU:U=(head*B+u0)*E+ul)(hvl:vl<E)(asK:sec<B)(hUV:U<V*B):head<top*B+B:=by
 have h1:V<(top*B+B)*E:=by
  have h2:(top*B+sec+1)*E<=(top*B+B)*E:=dV E (by omega);have h3:(top*B+sec+1)*E=(top*B+sec)*E+E:=gj ..;omega
 have h4:head*B*E<(top*B+B)*B*E:=by
  have h5:V*B<=(top*B+B)*E*B:=dV B (by omega);have h6:(head*B+u0)*E=head*B*E+u0*E:=en ..;have h7:(top*B+B)*E*B=(top*B+B)*B*E:=Nat.mul_right_comm ..
  have h8:V*B<(top*B+B)*E*B:=by
   rcases dF B with h0|h0
   ·subst h0;omega
   ·exact sI h1 h0
  omega
 have h9:=vS (a:=E) h4;exact vS (a:=B) h9

def gN (d:Nat)(v:Nat->Nat):Nat->Nat
 |0=>0
 |k+1=>(d*v k+gN d v k)/4294967296
def jV (d:Nat)(v:Nat->Nat)(k:Nat):Nat:=(d*v k+gN d v k)%4294967296
def nU (d:Nat)(u v:Nat->Nat):Nat->Nat
 |0=>0
 |k+1=>lH (u k) (jV d v k) (nU d u v k)
def uz (d:Nat)(u v:Nat->Nat)(k:Nat):Nat:=ja (u k) (jV d v k) (nU d u v k)
theorem vZ {d:Nat}{v:Nat->Nat}(hd:d<4294967296)(hv:∀i,v i<4294967296)(k:Nat):gN d v k<4294967296:=by
 induction k with
 |zero=>simp[gN]
 |succ k ih=>
  have h1:=fG hd (hv k);rw[gN]
  generalize d*v k=z at*
  omega
theorem iT (d:Nat)(v:Nat->Nat)(k:Nat):jV d v k<4294967296:=bK _ (by decide)
theorem BJ (d:Nat)(u v:Nat->Nat)(k:Nat):nU d u v k<=1:=by
 cases k with
 |zero=>exact bF _
 |succ k=>exact BG ..
theorem sO (d:Nat)(u v:Nat->Nat)(k:Nat):uz d u v k<4294967296:=mY ..
theorem JL {d:Nat}{u v:Nat->Nat}(hu:∀i,u i<4294967296)(n:Nat):
  vs ah (uz d u v) n+d*vs ah v n=vs ah u n+ah^n*(gN d v n+nU d u v n):=by
 induction n with
 |zero=>simp[vs,gN,nU]
 |succ n ih=>
  have h1:=sub_eq (hu n) (iT d v n) (BJ d u v n);have h2:jV d v n+4294967296*gN d v (n+1)=d*v n+gN d v n:=Nat.mod_add_div _ _
  have h3:uz d u v n+d*v n+(gN d v n+nU d u v n)=u n+ah*(gN d v (n+1)+nU d u v (n+1)):=by
   have e1:nU d u v (n+1)=lH (u n) (jV d v n) (nU d u v n):=rfl;have e2:uz d u v n=ja (u n) (jV d v n) (nU d u v n):=rfl;rw[aY,e1,e2,show ah=4294967296 by rfl];omega
  have h4:ah^n*(uz d u v n+d*v n+(gN d v n+nU d u v n))=ah^n*(u n+ah*(gN d v (n+1)+nU d u v (n+1))):=by rw[h3]
  have h5:d*(vs ah v n+ah^n*v n)=d*vs ah v n+ah^n*(d*v n):=by rw[aY,gV]
  rw[bz,bz,bz,h5,cF,cA];rw[aY (ah^n) (uz d u v n+d*v n),aY (ah^n) (uz d u v n),aY (ah^n) (u n)] at h4
  generalize ah^n*(ah*(gN d v (n+1)+nU d u v (n+1)))=z1 at*
  generalize ah^n*(gN d v n+nU d u v n)=z2 at*
  generalize ah^n*(d*v n)=z3 at*
  omega

theorem rz (d:Nat)(v:Nat->Nat)(k:Nat):((d:Int)*(v k:Nat)+(gN d v k:Nat))/4294967296=((gN d v (k+1):Nat):Int):=by
 rw[gN,<-cM,<-Int.natCast_add];rfl
theorem rA (d:Nat)(v:Nat->Nat)(k:Nat):((d:Int)*(v k:Nat)+(gN d v k:Nat))%4294967296=((jV d v k:Nat):Int):=by
 rw[jV,<-cM,<-Int.natCast_add];rfl
def BK (f v:Nat->Nat):Nat->Nat
 |0=>0
 |k+1=>(f k+v k+BK f v k)/4294967296
def adg (f v:Nat->Nat)(k:Nat):Nat:=(f k+v k+BK f v k)%4294967296
theorem RO {f v:Nat->Nat}(hf:∀i,f i<4294967296)(hv:∀i,v i<4294967296)(k:Nat):BK f v k<=1:=by
 induction k with
 |zero=>exact bF _
 |succ k ih=>
  have:=hf k;have:=hv k;rw[BK];omega
theorem RP (f v:Nat->Nat)(k:Nat):adg f v k<4294967296:=bK _ (by decide)
theorem WE (f v:Nat->Nat)(n:Nat):vs ah (adg f v) n+ah^n*BK f v n=vs ah f n+vs ah v n:=by
 induction n with
 |zero=>simp[vs,BK]
 |succ n ih=>
  have h:=qo (t:=f n+v n) ih (show adg f v n=(f n+v n+BK f v n)%ah by rfl);rw[aY] at h;rw[bz ah f,bz ah v];have e:BK f v (n+1)=(f n+v n+BK f v n)/ah:=rfl;rw[e];omega

theorem GR {d n V:Nat}{u v:Nat->Nat}(hu:∀i,u i<4294967296)(hV:vs ah v n=V)(hlo:vs ah u (n+1)/V<=d)(WG:0<V)
  (hnb:gN d v n+nU d u v n<=u n):vs ah u (n+1)/V=d/\vs ah u (n+1)%V=vs ah (uz d u v) n+ah^n*(u n-(gN d v n+nU d u v n)):=by
 have h1:=JL (d:=d) (v:=v) hu n;rw[hV] at h1;have h2:=bz ah u n
 have h3:ah^n*(u n-(gN d v n+nU d u v n))+ah^n*(gN d v n+nU d u v n)=ah^n*u n:=by rw[<-aY];congr 1;omega
 have h4:vs ah u (n+1)=d*V+(vs ah (uz d u v) n+ah^n*(u n-(gN d v n+nU d u v n))):=by omega
 have h5:d<=vs ah u (n+1)/V:=by rw[qZ WG];omega
 have h6:vs ah u (n+1)/V=d:=Nat.le_antisymm hlo h5;refine⟨h6, ?_⟩;have h7:=eK (vs ah u (n+1)) V;rw[h6,bC V d] at h7;omega
theorem LH {d n V:Nat}{u v:Nat->Nat}(hu:∀i,u i<4294967296)(hv:∀i,v i<4294967296)(hV:vs ah v n=V)(hup:d*V<vs ah u (n+1)+V)
  (hb:u n<gN d v n+nU d u v n) (hd:d<4294967296):
  0<d/\vs ah u (n+1)/V=d-1/\vs ah u (n+1)%V=vs ah (adg (uz d u v) v) n+ah^n*((ja (u n) (gN d v n) (nU d u v n)+BK (uz d u v) v n)%4294967296):=by
 have hmc:=vZ hd hv n;have hmb:=BJ d u v n;have h1:=JL (d:=d) (v:=v) hu n;rw[hV] at h1;have h2:=bz ah u n;have hun:=hu n;have aoB:ah^n*(u n+1)<=ah^n*(gN d v n+nU d u v n):=cT _ hb;rw[aY,fJ] at aoB
 have hmd:vs ah (uz d u v) n<ah^n:=kf fun j _=>sO ..
 have hgt:vs ah u (n+1)<d*V:=by omega
 have WG:0<V:=by
  rcases dF V with h0|h0
  ·rw[h0] at hgt;omega
  ·exact h0
 have TN:0<d:=by
  rcases dF d with h0|h0
  ·rw[h0] at hgt;omega
  ·exact h0
 have hdm:d*V=(d-1)*V+V:=by rw[<-gj];congr 1;omega
 have hq1:vs ah u (n+1)/V<d:=by rw[eX WG];exact hgt
 have hq2:d-1<=vs ah u (n+1)/V:=by rw[qZ WG];omega
 have hq:vs ah u (n+1)/V=d-1:=by omega
 refine⟨TN,hq, ?_⟩;have h7:=eK (vs ah u (n+1)) V;rw[hq,bC V (d-1)] at h7;have hmod:=bK (vs ah u (n+1)) WG;have h8:=WE (uz d u v) v n;rw[hV] at h8;have hac:=RO (fun i=>sO d u v i) hv n
 have had:vs ah (adg (uz d u v) v) n<ah^n:=kf fun j _=>RP ..
 have TR:V<ah^n:=by rw[<-hV];exact kf fun j _=>hv j
 -- the aeG R: R + ah ^ n * (carry + borrow) = (sum) + ah ^ n * (carry back + u n)
 have h9:vs ah u (n+1)%V+ah^n*(gN d v n+nU d u v n)=vs ah (adg (uz d u v) v) n+ah^n*(BK (uz d u v) v n+u n):=by
  rw[aY (ah^n) (BK _ _ _)];omega
 -- so the top digit comes to 0
 have h10:gN d v n+nU d u v n=BK (uz d u v) v n+u n:=by
  rcases Nat.lt_trichotomy (gN d v n+nU d u v n) (BK (uz d u v) v n+u n) with h|h|h
  ·omega
  ·exact h
  ·
   have h11:ah^n*(BK (uz d u v) v n+u n+1)<=ah^n*(gN d v n+nU d u v n):=cT _ h;rw[aY (ah^n) (BK _ _ _+_),fJ] at h11;omega
 have h12:(ja (u n) (gN d v n) (nU d u v n)+BK (uz d u v) v n)%4294967296=0:=by unfold ja;omega
 rw[h12];rw[h10] at h9;omega
theorem ail (f:Nat->Nat)(m:Nat):vs ah f (m+2)=(f (m+1)*ah+f m)*ah^m+vs ah f m:=by
 rw[bz,bz,cF,en]
 have e1:f (m+1)*ah*ah^m=ah^m*ah*f (m+1):=by rw[bC (f (m+1)) ah,cA,bC (f (m+1)),<-cA,bC ah]
 have e2:f m*ah^m=ah^m*f m:=bC ..;omega
theorem aoC (f:Nat->Nat)(m:Nat):vs ah f (m+3)=((4294967296*f (m+2)+f (m+1))*ah+f m)*ah^m+vs ah f m:=by
 have h:=ail f m;have h2:vs ah f (m+3)=vs ah f (m+2)+ah^(m+2)*f (m+2):=bz ah f (m+2)
 have e:ah^(m+2)*f (m+2)=4294967296*f (m+2)*ah*ah^m:=by
  show ah^(m+2)*f (m+2)=ah*f (m+2)*ah*ah^m;rw[cF,cF,Nat.mul_right_comm ah (f (m+2)) ah,Nat.mul_right_comm (ah*ah) (f (m+2)) (ah^m),cA (ah^m),bC (ah^m)]
 have e3:(4294967296*f (m+2)+f (m+1))*ah=4294967296*f (m+2)*ah+f (m+1)*ah:=en ..;rw[e3,Nat.add_assoc,en,<-e];omega
structure jn (U V top sec HD u0:Nat):Prop where
 ex:∃E vl ul,V=(top*ah+sec)*E+vl/\U=(HD*ah+u0)*E+ul/\vl<E/\ul<E
 lt:U<V*ah
 top:2147483648<=top
 sec:sec<4294967296
 u0:u0<4294967296
def wh (U V top HD dg rs:Nat):Prop:=dg*top+rs=HD/\rs<4294967296/\U/V<=dg
def BL (U V dg:Nat):Prop:=U/V<=dg/\dg*V<U+V/\dg<4294967296
section
variable {U V top sec HD u0 dg rs:Nat}
theorem wh.le (h:wh U V top HD dg rs)(ht:0<top):dg<=HD:=by
 have h1:=Nat.le_mul_of_pos_right dg ht;have h2:=h.1;omega
theorem jn.pos (h:jn U V top sec HD u0):0<V:=by
 have:=h.lt
 rcases dF V with e|e
 ·rw[e,Nat.zero_mul] at this;omega
 ·exact e
theorem jn.aoD (h:jn U V top sec HD u0):U/V<4294967296:=by
 rw[eX h.pos,bC];exact h.lt
theorem jn.start (h:jn U V top sec HD u0)(ht:top<4294967296):wh U V top HD (HD/top) (HD%top):=by
 have h0:=h.top;have hm:=bK HD (show 0<top by omega);have hdm:=eK HD top;obtain⟨E,vl,ul,hV,hU,hvl,hul⟩:=h.ex;refine⟨by rw[bC];exact hdm,by omega, ?_⟩
 have h1:U<(HD/top+1)*V:=by
  have h2:HD+1<=(HD/top+1)*top:=by rw[en,fI,bC];omega
  have h3:(HD*ah+u0+1)*E<=((HD/top+1)*top*ah)*E:=dV E (by
   have h4:=dV ah h2;have h5:(HD+1)*ah=HD*ah+ah:=gj ..;have h6:=h.u0;have h7:ah=4294967296:=rfl
   omega)
  have h4:(HD*ah+u0+1)*E=(HD*ah+u0)*E+E:=gj ..
  have h5:(HD/top+1)*(top*ah*E)<=(HD/top+1)*V:=cT _ (by
   have:(top*ah+sec)*E=top*ah*E+sec*E:=en ..
   omega)
  have h6:(HD/top+1)*(top*ah*E)=(HD/top+1)*top*ah*E:=by rw[<-cA,<-cA]
  omega
 have h5:U/V<HD/top+1:=by rwa [eX h.pos]
 exact Nat.le_of_lt_succ h5
theorem jn.stay (h:jn U V top sec HD u0)(hi:wh U V top HD dg rs)(hc:4294967296<=dg\/rs*4294967296+u0<dg*sec):0<dg/\(dg-1)*top+(rs+top)=HD/\U/V<=dg-1:=by
 obtain⟨h1,h2,h3⟩:=hi;have h0:=h.aoD;obtain⟨E,vl,ul,hV,hU,hvl,hul⟩:=h.ex
 have h4:U/V<dg:=by
  rcases hc with hc|hc
  ·exact bY h0 hc
  ·
   rw[eX h.pos];exact RN hV hU hul h1 hc
 refine⟨eH (bF _) h4, ?_,Nat.le_sub_one_of_lt h4⟩;have h5:0<dg:=eH (bF _) h4
 have:dg*top=(dg-1)*top+top:=by rw[<-gj];congr 1;omega
 omega
theorem jn.leave (h:jn U V top sec HD u0)(hr:dg*top+rs=HD)(hq:U/V<=dg)(hd:dg<4294967296)(ht:dg*sec<=rs*4294967296+u0):BL U V dg:=by
 obtain⟨E,vl,ul,hV,hU,hvl,hul⟩:=h.ex;exact⟨hq,LG hV hU hvl (by have:=h.top;omega) hd hr ht,hd⟩
theorem jn.aae (h:jn U V top sec HD u0)(hr:dg*top+rs=HD)(hq:U/V<=dg)(hrs:4294967296<=rs):BL U V dg:=by
 obtain⟨E,vl,ul,hV,hU,hvl,hul⟩:=h.ex;have h1:=GQ hV hU hvl h.sec h.lt;have pJ:=h.top
 have hd:dg<4294967296:=by
  have h2:dg*top<top*4294967296:=by
   have:top*ah+ah=top*4294967296+4294967296:=rfl;omega
  rw[bC top] at h2;exact vS h2
 refine h.leave hr hq hd ?_;have h3:=fG hd h.sec;omega
end
end Go.Proofs.YtclbiihcbfnjmaaGreat
namespace Go.Proofs.YtclbiihcbfnjmaaGreat
open Go.RowKit

theorem BM (x:Nat):vs ah (fun i=>if i=0 then x%4294967296 else x/4294967296) 2=x:=by
 simp[vs,ah];omega
theorem LI (x:Nat)(w:World)(hx:x<18446744073709551616):Calls Tryz.prog 191 #[.int .u64 (x:Int)] w (TM w x):=by
 have h1:x/4294967296<4294967296:=by omega
 go_enter Tryz.func191,Tryz.ntmps191
 go_wp2_with fail
 have hrd:Rd (w.alloc (.cells #[.int .u32 ((x:Int)%4294967296),.int .u32 ((x:Int)/4294967296)] 171)).heap.size .u32 (w.alloc (.cells #[.int .u32 ((x:Int)%4294967296),.int .u32 ((x:Int)/4294967296)] 171)) (some ⟨w.heap.size,0,none⟩) 2 (fun i=>if i=0 then x%4294967296 else x/4294967296):=fun _=>
  ⟨w.heap.size,0,rfl,by simp,fun i hi=>by
   rw[fk,gZ _ _ _ _ _ (0,0) (eU _ _)]
   match i,hi with
   |0,_=>rfl
   |1,_=>rfl⟩
 have ht:=gH (some ⟨w.heap.size,0,none⟩) 2 2 _ _ hrd (fun i _=>by split<;>omega) (aq _) (by omega);rw[BM x] at ht;refine ht.mono ?_
 rintro e w1 ⟨rfl,rfl,ia,hlc⟩
 go_wp2_with fail
 go_ret
 exact⟨_,_,rfl,hlc,ia,(aU _ _).alloc (aq _) _⟩
end Go.Proofs.YtclbiihcbfnjmaaGreat
namespace Go.Proofs.YtclbiihcbfnjmaaGreat

theorem uQ {n d:Int}(hd:0<d):(Rat.divInt n d).num=n/((Nat.gcd n.natAbs d.natAbs:Nat):Int)/\((Rat.divInt n d).den:Int)=d/((Nat.gcd n.natAbs d.natAbs:Nat):Int):=by
 rw[Rat.num_divInt,Rat.den_divInt,if_neg (by omega),Int.sign_eq_one_of_pos hd,Int.one_mul]
 have e:Int.gcd d n=Nat.gcd n.natAbs d.natAbs:=by rw[Int.gcd_comm];rfl
 rw[e];refine⟨rfl, ?_⟩;rw[jl]
 congr 1
 omega
theorem JM (n d:Int):Rat.divInt (-n) (-d)=Rat.divInt n d:=Rat.neg_divInt_neg n d
theorem uP (a b:Rat):Rat.divInt (a.num*(b.den:Int)+b.num*(a.den:Int)) ((a.den:Int)*(b.den:Int))=a+b:=by
 rw[Rat.add_def',<-cM,Rat.divInt_ofNat]
theorem WH (a b:Rat):Rat.divInt (a.num*(b.den:Int)+-(b.num*(a.den:Int))) ((a.den:Int)*(b.den:Int))=a-b:=by
 rw[Rat.sub_def',<-cM,Rat.divInt_ofNat,Int.sub_eq_add_neg]
theorem WJ (a b:Rat):Rat.divInt (a.num*b.num) ((a.den:Int)*(b.den:Int))=a*b:=by
 rw[Rat.mul_def',<-cM,Rat.divInt_ofNat]
theorem WK (a b:Rat):Rat.divInt (a.num*(b.den:Int)) ((a.den:Int)*b.num)=a/b:=by
 rw[Rat.div_def,Rat.inv_def,<-Rat.divInt_mul_divInt,Rat.num_divInt_den]
theorem RQ {n:Int}{d:Nat}(hd:0<d)(hg:Nat.gcd n.natAbs d=1):(Rat.divInt n d).num=n/\(Rat.divInt n d).den=d:=by
 have h:Rat.divInt n d=⟨n,d,by omega,hg⟩:=(Rat.mk_eq_divInt).symm;rw[h];exact⟨rfl,rfl⟩
theorem den_pos (q:Rat):0<q.den:=Nat.pos_of_ne_zero q.den_nz
def Dv (q:Rat)(D:Nat):Prop:=∃z:Int,q*(D:Rat)=(z:Rat)
theorem Dv.iff {q:Rat}{D:Nat}:q.den∣D↔Dv q D:=by
 have e:q*(q.den:Rat)=(q.num:Rat):=by
  have hq:(q.den:Rat)≠0:=by
   have:=q.den_nz;intro h;exact this (by exact_mod_cast h)
  have h1:=Rat.num_divInt_den q;rw[Rat.divInt_eq_div] at h1;have h2:(((q.den:Nat):Int):Rat)=((q.den:Nat):Rat):=rfl;rw[h2] at h1
  conv=>lhs;rw[<-h1]
  grind
 constructor
 ·
  rintro⟨k,hk⟩
  refine⟨q.num*k, ?_⟩;rw[hk,mW,Rat.intCast_mul,<-e];have:((k:Int):Rat)=(k:Rat):=rfl;rw[this]
  grind
 ·
  rintro⟨z,hz⟩
  have h1:(q.num:Rat)*(D:Rat)=(z:Rat)*(q.den:Rat):=by
   rw[<-e,<-hz];grind
  have h2:q.num*(D:Int)=z*(q.den:Int):=by
   have h3:(((q.num*(D:Int):Int)):Rat)=((z*(q.den:Int):Int):Rat):=by
    rw[Rat.intCast_mul,Rat.intCast_mul];exact h1
   exact Rat.intCast_inj.1 h3
  have h4:q.den∣q.num.natAbs*D:=by
   have h5:=gn Int.natAbs h2;rw[Int.natAbs_mul,Int.natAbs_mul,bV,bV] at h5;exact⟨z.natAbs,by rw[h5,bC]⟩
  exact(Nat.Coprime.dvd_of_dvd_mul_left (Nat.Coprime.symm q.reduced) h4)
theorem Dv.self (q:Rat):Dv q q.den:=Dv.iff.1 (fB _)
theorem Dv.int (z:Int):Dv (z:Rat) 1:=⟨z,by grind⟩
theorem Dv.add {a b:Rat}{D:Nat}(ha:Dv a D)(hb:Dv b D):Dv (a+b) D:=by
 obtain⟨x,hx⟩:=ha;obtain⟨y,hy⟩:=hb;exact⟨x+y,by rw[Rat.intCast_add,<-hx,<-hy];grind⟩
theorem Dv.neg {a:Rat}{D:Nat}(ha:Dv a D):Dv (-a) D:=by
 obtain⟨x,hx⟩:=ha;exact⟨-x,by rw[Rat.intCast_neg,<-hx];grind⟩
theorem Dv.sub {a b:Rat}{D:Nat}(ha:Dv a D)(hb:Dv b D):Dv (a-b) D:=by
 rw[Rat.sub_eq_add_neg];exact ha.add hb.neg
theorem Dv.mul {a b:Rat}{D E:Nat}(ha:Dv a D)(hb:Dv b E):Dv (a*b) (D*E):=by
 obtain⟨x,hx⟩:=ha;obtain⟨y,hy⟩:=hb;exact⟨x*y,by rw[Rat.intCast_mul,mW,<-hx,<-hy];grind⟩
theorem Dv.more {a:Rat}{D E:Nat}(ha:Dv a D)(h:D∣E):Dv a E:=Dv.iff.1 (ji (Dv.iff.2 ha) h)
def fl (q:Rat):Nat:=max (ln ai q.num.natAbs) (ln ai q.den)
theorem dA {q:Rat}{k:Nat}:fl q<=k↔ln ai q.num.natAbs<=k/\ln ai q.den<=k:=by unfold fl;omega
theorem rB {q:Rat}{D M k:Nat}(hD:0<D)(hd:Dv q D)(h1:-(M:Rat)<=q)(h2:q<=(M:Rat))(hM:0<M)(hk:ln ai (M*D)<=k):fl q<=k:=by
 have FE:=Nat.le_of_dvd hD (Dv.iff.2 hd)
 have e1:q.num.natAbs<=M*q.den:=by
  have h3:=(Rat.le_iff q (M:Rat)).1 h2;have h4:=(Rat.le_iff (-(M:Rat)) q).1 h1;rw[Rat.neg_num,Rat.neg_den] at h4;rw[Rat.num_natCast,Rat.den_natCast] at h3 h4;simp only[Int.natCast_one,Int.mul_one] at h3 h4;rw[Int.neg_mul] at h4;have h5:((M*q.den:Nat):Int)=(M:Int)*(q.den:Int):=cM _ _;omega
 have e2:M*q.den<=M*D:=cT _ FE;have e3:q.den<=M*D:=ay FE (kj _ hM);exact dA.2 ⟨ay (cN aA (ay e1 e2)) hk,ay (cN aA e3) hk⟩
end Go.Proofs.YtclbiihcbfnjmaaGreat
namespace Go.Proofs.YtclbiihcbfnjmaaGreat

def pr (f:Nat->Rat):Nat->Rat
 |0=>1
 |k+1=>pr f k*(1-f k)
def dpr (f:Nat->Rat):Nat->Nat
 |0=>1
 |k+1=>dpr f k*(f k).den
def uE (f:Nat->Rat)(n:Nat):Prop:=∀i,i<n->0<=f i/\f i<=1/\(f i).den<ai
theorem aaf (f:Nat->Rat):∀k,Dv (pr f k) (dpr f k)
 |0=>⟨1,by simp[pr,dpr]⟩
 |k+1=>(aaf f k).mul (((Dv.int 1).more (Nat.one_dvd _)).sub (Dv.self (f k)))
theorem JN (f:Nat->Rat):∀k,0<dpr f k
 |0=>by simp[dpr]
 |k+1=>dP (JN f k) (f k).den_pos
theorem RR {f:Nat->Rat}{n:Nat}(h:uE f n):∀k,k<=n->dpr f k<=ai^k
 |0,_=>by simp[dpr]
 |k+1,hk=>by
  have h1:=RR h k (by omega);have h2:=bG (h k (by omega)).2.2;rw[cF];exact dU h1 h2
theorem RT {f:Nat->Rat}{n:Nat}(h:uE f n):∀k,k<=n->0<=pr f k/\pr f k<=1
 |0,_=>by simp only[pr];exact⟨by decide,by decide⟩
 |k+1,hk=>by
  obtain⟨h1,h2⟩:=RT h k (by omega);obtain⟨h3,h4,_⟩:=h k (by omega)
  have a0:0<=1-f k:=by grind
  have a1:1-f k<=1:=by grind
  refine⟨gW h1 a0, ?_⟩;have:=gW h1 h3;simp only[pr]
  grind
theorem RU {q:Rat}{D k:Nat}(hD:0<D)(hd:Dv q D)(h1:0<=q)(h2:q<=1)(hk:D<=ai^k):fl q<=k+1:=by
 refine rB hD hd (M:=1) (by grind) (by grind) (by decide) ((bJ aA).2 ?_);rw[fI,cF];have hp:0<ai^k:=bM (by decide);have h2:ai^k*2<=ai^k*ai:=cT _ aA;omega
theorem aag {f:Nat->Rat}{n k:Nat}(h:uE f n)(hk:k<=n):fl (pr f k)<=k+1:=
 RU (JN f k) (aaf f k) (RT h k hk).1 (RT h k hk).2 (RR h k hk)
theorem RV {f:Nat->Rat}{n k:Nat}(h:uE f n)(hk:k<n):fl (1-f k)<=2:=by
 obtain⟨h3,h4,h5⟩:=h k hk;exact RU (k:=1) (f k).den_pos (((Dv.int 1).more (Nat.one_dvd _)).sub (Dv.self (f k))) (by grind) (by grind) (by rw[Nat.pow_one];omega)
theorem zj {f:Nat->Rat}{n k:Nat}(h:uE f n)(hk:k<n):fl (f k)<=2:=by
 obtain⟨h3,h4,h5⟩:=h k hk;exact RU (k:=1) (f k).den_pos (Dv.self (f k)) h3 h4 (by rw[Nat.pow_one];omega)
end Go.Proofs.YtclbiihcbfnjmaaGreat
