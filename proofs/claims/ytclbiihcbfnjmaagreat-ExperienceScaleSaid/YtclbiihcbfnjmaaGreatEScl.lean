/-
  Parts.
-/
import Derived.Test.YtclbiihcbfnjmaaGreatE9
import Derived.Test.YtclbiihcbfnjmaaGreatE10
import Derived.Test.YtclbiihcbfnjmaaGreatIvL
import Derived.Test.YtclbiihcbfnjmaaGreatEApp
set_option linter.unusedSimpArgs false
set_option maxRecDepth 100000
set_option maxHeartbeats 8000000
namespace Go.Proofs.YtclbiihcbfnjmaaGreat
open Go.RowKit

theorem GZ (r:Nat->Gr)(k j:Nat):(vf r k j).length=12:=by unfold vf;split<;>rfl
theorem Tx (r:Nat->Gr)(k:Nat)(v:Value):(qx (vf r k) k ((vf r k k).set 10 v) k).length=12:=by unfold qx;rw[if_pos rfl,List.length_set,GZ]
theorem aaz {r:Nat->Gr}{k:Nat}{x:Ct}{z a d:Int}(h:⟨x,z,a,d⟩=r k):(vf r k k)[10]?=some (.int .i64 a):=by unfold vf;rw[if_neg (Nat.lt_irrefl k),<-h];rfl
theorem Ty {r:Nat->Gr}{k:Nat}{v:Value}{x:Ct}{z a d:Int}(h:⟨x,z,a,d⟩=r k):(qx (vf r k) k ((vf r k k).set 10 v) k)[11]?=some (.int .i64 d):=by unfold qx vf;rw[if_pos rfl,if_neg (Nat.lt_irrefl k),<-h];rfl
theorem N8 {r:Nat->Gr}{k:Nat}{x:Ct}{z a d:Int}(h:⟨x,z,a,d⟩=r k)(j:Nat):(qx (qx (vf r k) k ((vf r k k).set 10 (.int .i64 (2*a)))) k (((qx (vf r k) k ((vf r k k).set 10 (.int .i64 (2*a)))) k).set 11 (.int .i64 (2*d)))) j=vf r (k+1) j:=by
 unfold qx vf
 by_cases e:j=k
 ·
  subst e;rw[if_pos rfl,if_pos rfl,if_neg (Nat.lt_irrefl j),if_pos (Nat.lt_succ_self j),<-h];rfl
 ·
  rw[if_neg e,if_neg e]
  by_cases h2:j<k
  ·rw[if_pos h2,if_pos (by omega)]
  ·rw[if_neg h2,if_neg (by omega)]
theorem nP.two {b n cap:Nat}{A:Option Addr}{r:Nat->Gr}{W:World}(h:Rw 72 12 b n cap (vf r n) W)(hr:nP A n r W):nP (some ⟨b,0,none⟩) n (fun k=>(r k).two) W:=fun h0=>⟨b,0,rfl,h.lt,fun k hk=>⟨fun j v hv=>by
 have hj:j<12:=(List.getElem?_eq_some_iff.1 hv).1;rw[Nat.zero_add]
 exact h.cell hk hj rfl (by unfold vf;rw[if_pos hk];exact hv),hr.rd hk⟩⟩
theorem Jn (y:Yh)(w:World)(hY:y.rd w)(hi:y.i)(uS:y.n<=9223372036854775807):
  Calls Tryz.prog 13 #[.agg #[.int .i64 y.b.F,.int .i64 y.b.S,.slice y.b.A y.b.n y.b.c,.bool y.b.i.s,.slice y.b.i.A y.b.i.n y.b.i.c,.bool y.b.i.t,.slice y.b.i.B y.b.i.m y.b.i.d,.int .i64 y.d.F,.int .i64 y.d.S,.slice y.d.A y.d.n y.d.c,.bool y.d.i.s,.slice y.d.i.A y.d.i.n y.d.i.c,.bool y.d.i.t,.slice y.d.i.B y.d.i.m y.d.i.d,.bool y.j.s,.slice y.j.A y.j.n y.j.c,.bool y.j.t,.slice y.j.B y.j.m y.j.d,.slice y.A y.n y.c]] w (fun e w'=>e= .returned (.bool true)/\Below w.heap.size w w'):=by
 have eU:=Lib.hid hY;clear hY;have mP:=Lib.hid hi;clear hi;have ua:=Lib.hid uS;clear uS;have hE:=(Env.start w).blk 67 #[.int .i64 y.b.F,.int .i64 y.b.S,.slice y.b.A y.b.n y.b.c,.bool y.b.i.s,.slice y.b.i.A y.b.i.n y.b.i.c,.bool y.b.i.t,.slice y.b.i.B y.b.i.m y.b.i.d,.int .i64 y.d.F,.int .i64 y.d.S,.slice y.d.A y.d.n y.d.c,.bool y.d.i.s,.slice y.d.i.A y.d.i.n y.d.i.c,.bool y.d.i.t,.slice y.d.i.B y.d.i.m y.d.i.d,.bool y.j.s,.slice y.j.A y.j.n y.j.c,.bool y.j.t,.slice y.j.B y.j.m y.j.d,.slice y.A y.n y.c] (g:=w.heap.size) rfl
 obtain⟨W0,aC⟩:∃W0,W0=(w.alloc (.cells #[.int .i64 y.b.F,.int .i64 y.b.S,.slice y.b.A y.b.n y.b.c,.bool y.b.i.s,.slice y.b.i.A y.b.i.n y.b.i.c,.bool y.b.i.t,.slice y.b.i.B y.b.i.m y.b.i.d,.int .i64 y.d.F,.int .i64 y.d.S,.slice y.d.A y.d.n y.d.c,.bool y.d.i.s,.slice y.d.i.A y.d.i.n y.d.i.c,.bool y.d.i.t,.slice y.d.i.B y.d.i.m y.d.i.d,.bool y.j.s,.slice y.j.A y.j.n y.j.c,.bool y.j.t,.slice y.j.B y.j.m y.j.d,.slice y.A y.n y.c] 67)):=⟨_,rfl⟩
 rw[<-aC] at hE;have aU:=Lib.hid aC;clear aC
 go_enter Tryz.func13,Tryz.ntmps13
 go_upto_region 1 with(fail)
 rw[<-aU.out];go_wp2_with fail
 refine hE.br (mC _) ?_;clear hE;intro w1 hE;have dH:(Instr.loadAt 67 (.pointer (some ⟨w.heap.size,0,none⟩))).run Tryz.prog w1= .ok (.agg #[.int .i64 y.b.F,.int .i64 y.b.S,.slice y.b.A y.b.n y.b.c,.bool y.b.i.s,.slice y.b.i.A y.b.i.n y.b.i.c,.bool y.b.i.t,.slice y.b.i.B y.b.i.m y.b.i.d,.int .i64 y.d.F,.int .i64 y.d.S,.slice y.d.A y.d.n y.d.c,.bool y.d.i.s,.slice y.d.i.A y.d.i.n y.d.i.c,.bool y.d.i.t,.slice y.d.i.B y.d.i.m y.d.i.d,.bool y.j.s,.slice y.j.A y.j.n y.j.c,.bool y.j.t,.slice y.j.B y.j.m y.j.d,.slice y.A y.n y.c]) w1:=run_loadAt_mid _ _ _ _ [.int .i64 y.b.F,.int .i64 y.b.S,.slice y.b.A y.b.n y.b.c,.bool y.b.i.s,.slice y.b.i.A y.b.i.n y.b.i.c,.bool y.b.i.t,.slice y.b.i.B y.b.i.m y.b.i.d,.int .i64 y.d.F,.int .i64 y.d.S,.slice y.d.A y.d.n y.d.c,.bool y.d.i.s,.slice y.d.i.A y.d.i.n y.d.i.c,.bool y.d.i.t,.slice y.d.i.B y.d.i.m y.d.i.d,.bool y.j.s,.slice y.j.A y.j.n y.j.c,.bool y.j.t,.slice y.j.B y.j.m y.j.d,.slice y.A y.n y.c] _ (ak.mid (hE.here.2) 0 rfl) Tryz.underlying67 rfl (by kernel_rfl);go_wp2_with (first|refine aK dH rfl rfl rfl ?_|refine bC dH (by rfl) rfl rfl ?_)
 clear dH;refine(iI (y:=y) (Yh.aA eU.out hE.av) mP.out ua.out).mono ?_
 rintro e w2 ⟨v,rfl,hv,hb⟩
 replace hE:=hE.step hb;clear hb
 cases v with
 |false=>
  clear hv;go_wp2_with fail
  go_ret
  exact⟨rfl,hE.av⟩
 |true=>
  have hU:=hv.1 rfl;clear hv;have yo:=hU.ys;have ym:=hU.1.bd (by decide) mP.out;have HhU:=Lib.hid hU;clear hU;have iR:=Lib.hid yo;clear yo;have jw:=Lib.hid ym;clear ym;have dH:(Instr.loadAt 67 (.pointer (some ⟨w.heap.size,0,none⟩))).run Tryz.prog w2= .ok (.agg #[.int .i64 y.b.F,.int .i64 y.b.S,.slice y.b.A y.b.n y.b.c,.bool y.b.i.s,.slice y.b.i.A y.b.i.n y.b.i.c,.bool y.b.i.t,.slice y.b.i.B y.b.i.m y.b.i.d,.int .i64 y.d.F,.int .i64 y.d.S,.slice y.d.A y.d.n y.d.c,.bool y.d.i.s,.slice y.d.i.A y.d.i.n y.d.i.c,.bool y.d.i.t,.slice y.d.i.B y.d.i.m y.d.i.d,.bool y.j.s,.slice y.j.A y.j.n y.j.c,.bool y.j.t,.slice y.j.B y.j.m y.j.d,.slice y.A y.n y.c]) w2:=run_loadAt_mid _ _ _ _ [.int .i64 y.b.F,.int .i64 y.b.S,.slice y.b.A y.b.n y.b.c,.bool y.b.i.s,.slice y.b.i.A y.b.i.n y.b.i.c,.bool y.b.i.t,.slice y.b.i.B y.b.i.m y.b.i.d,.int .i64 y.d.F,.int .i64 y.d.S,.slice y.d.A y.d.n y.d.c,.bool y.d.i.s,.slice y.d.i.A y.d.i.n y.d.i.c,.bool y.d.i.t,.slice y.d.i.B y.d.i.m y.d.i.d,.bool y.j.s,.slice y.j.A y.j.n y.j.c,.bool y.j.t,.slice y.j.B y.j.m y.j.d,.slice y.A y.n y.c] _ (ak.mid (hE.here.2) 0 rfl) Tryz.underlying67 rfl (by kernel_rfl);obtain⟨V5,hst,dY,iC⟩:=dO w2 67 (z:=#[.int .i64 0,.int .i64 0,.slice none 0 0,.bool false,.slice none 0 0,.bool false,.slice none 0 0,.int .i64 0,.int .i64 0,.slice none 0 0,.bool false,.slice none 0 0,.bool false,.slice none 0 0,.bool false,.slice none 0 0,.bool false,.slice none 0 0,.slice none 0 0]) [.int .i64 y.b.F,.int .i64 y.b.S,.slice y.b.A y.b.n y.b.c,.bool y.b.i.s,.slice y.b.i.A y.b.i.n y.b.i.c,.bool y.b.i.t,.slice y.b.i.B y.b.i.m y.b.i.d,.int .i64 y.d.F,.int .i64 y.d.S,.slice y.d.A y.d.n y.d.c,.bool y.d.i.s,.slice y.d.i.A y.d.i.n y.d.i.c,.bool y.d.i.t,.slice y.d.i.B y.d.i.m y.d.i.d,.bool y.j.s,.slice y.j.A y.j.n y.j.c,.bool y.j.t,.slice y.j.B y.j.m y.j.d,.slice y.A y.n y.c] rfl (by kernel_rfl) rfl;have hQ:=Lib.hid (And.intro dY iC);clear dY iC
  go_upto_region 6 with(first|refine aK dH rfl rfl rfl ?_|refine cC hst rfl rfl rfl rfl ?_)
  clear dH hst
  obtain⟨gT,WH⟩:∃g,g=w2.heap.size:=⟨_,rfl⟩
  have hwT:w.heap.size<gT:=by rw[WH];exact(hE.here.2).lt
  rw[<-WH] at hQ⊢;have dY:=hQ.out.1;rw[WH] at dY;replace hE:=(hE.step dY).af (show ak 67 gT #[.int .i64 y.b.F,.int .i64 y.b.S,.slice y.b.A y.b.n y.b.c,.bool y.b.i.s,.slice y.b.i.A y.b.i.n y.b.i.c,.bool y.b.i.t,.slice y.b.i.B y.b.i.m y.b.i.d,.int .i64 y.d.F,.int .i64 y.d.S,.slice y.d.A y.d.n y.d.c,.bool y.d.i.s,.slice y.d.i.A y.d.i.n y.d.i.c,.bool y.d.i.t,.slice y.d.i.B y.d.i.m y.d.i.d,.bool y.j.s,.slice y.j.A y.j.n y.j.c,.bool y.j.t,.slice y.j.B y.j.m y.j.d,.slice y.A y.n y.c] V5 from hQ.out.2);clear dY WH hQ;have hbs:=Cp V5
  obtain⟨gS,KB⟩:∃g,g=V5.heap.size:=⟨_,rfl⟩
  rw[<-KB] at hbs
  have hTS:gT<gS:=by rw[KB];exact(hE.here.2).lt
  have hES:=hE.blk 72 #[] (g:=gS) KB.symm;generalize V5.alloc (.cells #[] 72)=V6 at hES hbs;clear KB;obtain⟨gN,cap,V7,hap,hgN,hRw,hbA⟩:=ve 65 (Yh.aA eU.out hES.av).2.2.2 (by have:=iR.out.n6;omega) hES.here.2;have jx:=(hES.here.1.1.2).cell 18;replace hE:=(hES.step hbA);clear hbA;replace hE:=(((Env.again hE.av).af (hE.h2)).af (hE.here.1.2))
  have MB:w.heap.size<=gT:=by omega
  have N9:=(dU [.slice (some ⟨gN,0,none⟩) y.n cap] 18 V7 ⟨_,hE.here.2,rfl⟩).1;change V7.grownBy (V7.setCell ⟨gT,18,none⟩ (.slice (some ⟨gN,0,none⟩) y.n cap)) _ at N9;have Zs:=(hE.here.2).cell 18;have Zt:=(hE.here.2).frozen 18;replace hE:=(((Env.again (Go.Proofs.YtclbiihcbfnjmaaGreat.Below.ax hE.av N9 hE.av.size MB)).af (ak.ax (hE.here.1.2) N9 (by omega))).af (show ak 67 gT #[.int .i64 y.b.F,.int .i64 y.b.S,.slice y.b.A y.b.n y.b.c,.bool y.b.i.s,.slice y.b.i.A y.b.i.n y.b.i.c,.bool y.b.i.t,.slice y.b.i.B y.b.i.m y.b.i.d,.int .i64 y.d.F,.int .i64 y.d.S,.slice y.d.A y.d.n y.d.c,.bool y.d.i.s,.slice y.d.i.A y.d.i.n y.d.i.c,.bool y.d.i.t,.slice y.d.i.B y.d.i.m y.d.i.d,.bool y.j.s,.slice y.j.A y.j.n y.j.c,.bool y.j.t,.slice y.j.B y.j.m y.j.d,.slice (some ⟨gN,0,none⟩) y.n cap] _ by simpa using((hE.here.2).bW 18 (.slice (some ⟨gN,0,none⟩) y.n cap))));replace hRw:=hRw.ax N9 (by omega)
  go_upto_region 7 with(first|refine EJ hbs rfl rfl ?_|refine Co hap rfl rfl rfl rfl ?_)
  clear hbs hap jx Zs Zt MB N9;generalize (V7.setCell ⟨gT,18,none⟩ (.slice (some ⟨gN,0,none⟩) y.n cap))=V8 at hE hRw⊢;replace hE:=hE.Ci (hRw.congr (e':=vf y.r 0) (fun k _=>by unfold vf;rw[if_neg (Nat.not_lt_zero _)]));clear hRw;go_wp2_with fail
  have hn6:y.n<=6:=iR.out.n6
  have hwN:w.heap.size<gN/\gT<gN:=by omega
  go_loopw [4] (fun p wr=>∃k:Nat,k<=y.n/\p= .int .i64 (k:Int)/\Env w (fun V=>(((True/\ak 67 (w.heap.size) #[.int .i64 y.b.F,.int .i64 y.b.S,.slice y.b.A y.b.n y.b.c,.bool y.b.i.s,.slice y.b.i.A y.b.i.n y.b.i.c,.bool y.b.i.t,.slice y.b.i.B y.b.i.m y.b.i.d,.int .i64 y.d.F,.int .i64 y.d.S,.slice y.d.A y.d.n y.d.c,.bool y.d.i.s,.slice y.d.i.A y.d.i.n y.d.i.c,.bool y.d.i.t,.slice y.d.i.B y.d.i.m y.d.i.d,.bool y.j.s,.slice y.j.A y.j.n y.j.c,.bool y.j.t,.slice y.j.B y.j.m y.j.d,.slice y.A y.n y.c] V)/\ak 67 (gT) #[.int .i64 y.b.F,.int .i64 y.b.S,.slice y.b.A y.b.n y.b.c,.bool y.b.i.s,.slice y.b.i.A y.b.i.n y.b.i.c,.bool y.b.i.t,.slice y.b.i.B y.b.i.m y.b.i.d,.int .i64 y.d.F,.int .i64 y.d.S,.slice y.d.A y.d.n y.d.c,.bool y.d.i.s,.slice y.d.i.A y.d.i.n y.d.i.c,.bool y.d.i.t,.slice y.d.i.B y.d.i.m y.d.i.d,.bool y.j.s,.slice y.j.A y.j.n y.j.c,.bool y.j.t,.slice y.j.B y.j.m y.j.d,.slice (some ⟨gN,0,none⟩) y.n cap] V)/\Rw 72 12 gN y.n cap (vf y.r k) V)) wr) (fun p _=>y.n-(intOf p).toNat)
  case atStart=>exact⟨0,Nat.zero_le _,rfl,((((Env.again hE.av).af (hE.h2)).af (hE.here.1.2)).Ci (hE.here.2))⟩
  case round=>
   clear hE;obtain⟨k,hk,rfl,hE⟩:=hrel
   by_cases hlt:k<y.n
   rotate_left
   ·
    obtain⟨n9,hn9⟩:∃n,n=k:=⟨_,rfl⟩
    have hkn:k=y.n:=by omega
    have t1:decide ((k:Int)<(y.n:Int))=false:=decide_eq_false (by omega)
    have t2:¬(k:Int)<(y.n:Int):=by omega
    have k4:=(hE.here.1.2).cell 18
    go_upto_region 11 with(fail)
    clear k4;clear t1 t2 hlt n9 hn9
    have hRn:Rw 72 12 gN y.n cap (vf y.r y.n) wr:=by rw[<-hkn];rw[hkn];have h9:=hE.here.2;rw[hkn] at h9;exact h9
    replace hE:=hE.and (Q:=fun V=>Yh.rd (y.two (some ⟨gN,0,none⟩) cap) V) (fun _ _ hb h=>Yh.aA h hb) ⟨(Yh.aA eU.out hE.av).1,(Yh.aA eU.out hE.av).2.1,(Yh.aA eU.out hE.av).2.2.1,nP.two hRn (Yh.aA eU.out hE.av).2.2.2⟩;clear hRn;have dL:Yh.bd (y.two (some ⟨gN,0,none⟩) cap):=jw.out
    have hi2:Yh.i (y.two (some ⟨gN,0,none⟩) cap):=fun k hk=>by have h8:=(iR.out.gr hk).ok.2.2.1;have h9:=mP.out k hk;exact⟨h9.1,by unfold i64;show-9223372036854775808<=2*(y.r k).a/\2*(y.r k).a<=9223372036854775807;omega,by unfold i64;show-9223372036854775808<=2*(y.r k).d/\2*(y.r k).d<=9223372036854775807;omega,h9.2.2.2⟩
    have NR:=Lib.hid dL;clear dL;have NS:=Lib.hid hi2;clear hi2;have aqG:=Lib.hid hkn;clear hkn;replace hE:=((((Env.again hE.av).af (hE.h3)).af (hE.h2)).yrd (hE.here.2));have dH:(Instr.loadAt 67 (.pointer (some ⟨gT,0,none⟩))).run Tryz.prog wr= .ok (.agg #[.int .i64 y.b.F,.int .i64 y.b.S,.slice y.b.A y.b.n y.b.c,.bool y.b.i.s,.slice y.b.i.A y.b.i.n y.b.i.c,.bool y.b.i.t,.slice y.b.i.B y.b.i.m y.b.i.d,.int .i64 y.d.F,.int .i64 y.d.S,.slice y.d.A y.d.n y.d.c,.bool y.d.i.s,.slice y.d.i.A y.d.i.n y.d.i.c,.bool y.d.i.t,.slice y.d.i.B y.d.i.m y.d.i.d,.bool y.j.s,.slice y.j.A y.j.n y.j.c,.bool y.j.t,.slice y.j.B y.j.m y.j.d,.slice (some ⟨gN,0,none⟩) y.n cap]) wr:=run_loadAt_mid _ _ _ _ [.int .i64 y.b.F,.int .i64 y.b.S,.slice y.b.A y.b.n y.b.c,.bool y.b.i.s,.slice y.b.i.A y.b.i.n y.b.i.c,.bool y.b.i.t,.slice y.b.i.B y.b.i.m y.b.i.d,.int .i64 y.d.F,.int .i64 y.d.S,.slice y.d.A y.d.n y.d.c,.bool y.d.i.s,.slice y.d.i.A y.d.i.n y.d.i.c,.bool y.d.i.t,.slice y.d.i.B y.d.i.m y.d.i.d,.bool y.j.s,.slice y.j.A y.j.n y.j.c,.bool y.j.t,.slice y.j.B y.j.m y.j.d,.slice (some ⟨gN,0,none⟩) y.n cap] _ (ak.mid (hE.here.1.2) 0 rfl) Tryz.underlying67 rfl (by kernel_rfl);go_wp2_with (first|refine aK dH rfl rfl rfl ?_|refine bC dH (by rfl) rfl rfl ?_)
    clear dH;refine(kU (y:=(y.two (some ⟨gN,0,none⟩) cap)) (hE.here.2) NR.out NS.out).mono ?_
    rintro e zY ⟨v,rfl,hv,hb⟩
    replace hE:=hE.step hb;clear hb
    cases v with
    |false=>
     clear hv;go_wp2_with fail
     go_ret
     exact⟨rfl,hE.av⟩
    |true=>
     have Cj:YS (y.two (some ⟨gN,0,none⟩) cap):=⟨hv.1 rfl,iR.out.n6,iR.out.n0,iR.out.n1⟩;clear hv;have Cv:=Lib.hid Cj;clear Cj;have dH:(Instr.loadAt 67 (.pointer (some ⟨w.heap.size,0,none⟩))).run Tryz.prog zY= .ok (.agg #[.int .i64 y.b.F,.int .i64 y.b.S,.slice y.b.A y.b.n y.b.c,.bool y.b.i.s,.slice y.b.i.A y.b.i.n y.b.i.c,.bool y.b.i.t,.slice y.b.i.B y.b.i.m y.b.i.d,.int .i64 y.d.F,.int .i64 y.d.S,.slice y.d.A y.d.n y.d.c,.bool y.d.i.s,.slice y.d.i.A y.d.i.n y.d.i.c,.bool y.d.i.t,.slice y.d.i.B y.d.i.m y.d.i.d,.bool y.j.s,.slice y.j.A y.j.n y.j.c,.bool y.j.t,.slice y.j.B y.j.m y.j.d,.slice y.A y.n y.c]) zY:=run_loadAt_mid _ _ _ _ [.int .i64 y.b.F,.int .i64 y.b.S,.slice y.b.A y.b.n y.b.c,.bool y.b.i.s,.slice y.b.i.A y.b.i.n y.b.i.c,.bool y.b.i.t,.slice y.b.i.B y.b.i.m y.b.i.d,.int .i64 y.d.F,.int .i64 y.d.S,.slice y.d.A y.d.n y.d.c,.bool y.d.i.s,.slice y.d.i.A y.d.i.n y.d.i.c,.bool y.d.i.t,.slice y.d.i.B y.d.i.m y.d.i.d,.bool y.j.s,.slice y.j.A y.j.n y.j.c,.bool y.j.t,.slice y.j.B y.j.m y.j.d,.slice y.A y.n y.c] _ (ak.mid (hE.h2) 0 rfl) Tryz.underlying67 rfl (by kernel_rfl);go_wp2_with (first|refine aK dH rfl rfl rfl ?_|refine bC dH (by rfl) rfl rfl ?_)
     clear dH;refine(ep (y:=y) (Yh.aA eU.out hE.av) jw.out mP.out iR.out).mono ?_
     rintro e w5 ⟨h,rfl,hF,hb⟩
     replace hE:=hE.step hb;clear hb;have yM:yL (rep y.it y.n):=(iR.out).rep eU.out y.n (Nat.le_refl _)
     obtain⟨Q,hQ⟩:∃Q:Nat->Rat,Q=fun k=>if k=10 then fI (rep y.it y.n) else rep y.it y.n k:=⟨_,rfl⟩
     replace hF:cY Q 11 h w5:=by rw[hQ];exact hF
     have hlQ:∀k,k<11->fl (Q k)<=256:=fun k hk=>by
      rw[hQ];show fl (if k=10 then fI (rep y.it y.n) else rep y.it y.n k)<=256
      by_cases h10:k=10
      ·rw[if_pos h10];exact yM.fI.2.2.2.2
      ·rw[if_neg h10];exact yM.l k
     replace hE:=hE.lP hF;clear hF;have Jm:=Lib.hid hlQ;clear hlQ;have N3:=Lib.hid hQ;clear hQ;have afS:=Lib.hid yM;clear yM;obtain⟨VR,hst,dY,iC⟩:=dO w5 61 (z:=#[.bool false,.slice none 0 0,.bool false,.slice none 0 0,.bool false,.slice none 0 0,.bool false,.slice none 0 0,.bool false,.slice none 0 0,.bool false,.slice none 0 0,.bool false,.slice none 0 0,.bool false,.slice none 0 0,.bool false,.slice none 0 0,.bool false,.slice none 0 0,.bool false,.slice none 0 0,.bool false,.slice none 0 0,.bool false,.slice none 0 0,.bool false,.slice none 0 0,.bool false,.slice none 0 0,.bool false,.slice none 0 0,.bool false,.slice none 0 0,.bool false,.slice none 0 0,.bool false,.slice none 0 0,.bool false,.slice none 0 0,.bool false,.slice none 0 0,.bool false,.slice none 0 0]) (cP h) rfl (by kernel_rfl) rfl;have hQ:=Lib.hid (And.intro dY iC);clear dY iC
     go_upto_region 14 with(first|refine cC hst rfl rfl rfl rfl ?_)
     clear hst
     obtain⟨gR,pg⟩:∃g,g=w5.heap.size:=⟨_,rfl⟩
     rw[<-pg] at hQ⊢;have dY:=hQ.out.1;rw[pg] at dY;replace hE:=(hE.step dY).af (show ak 61 gR #[.bool (h 0).s,.slice (h 0).A (h 0).n (h 0).c,.bool (h 0).t,.slice (h 0).B (h 0).m (h 0).d,.bool (h 1).s,.slice (h 1).A (h 1).n (h 1).c,.bool (h 1).t,.slice (h 1).B (h 1).m (h 1).d,.bool (h 2).s,.slice (h 2).A (h 2).n (h 2).c,.bool (h 2).t,.slice (h 2).B (h 2).m (h 2).d,.bool (h 3).s,.slice (h 3).A (h 3).n (h 3).c,.bool (h 3).t,.slice (h 3).B (h 3).m (h 3).d,.bool (h 4).s,.slice (h 4).A (h 4).n (h 4).c,.bool (h 4).t,.slice (h 4).B (h 4).m (h 4).d,.bool (h 5).s,.slice (h 5).A (h 5).n (h 5).c,.bool (h 5).t,.slice (h 5).B (h 5).m (h 5).d,.bool (h 6).s,.slice (h 6).A (h 6).n (h 6).c,.bool (h 6).t,.slice (h 6).B (h 6).m (h 6).d,.bool (h 7).s,.slice (h 7).A (h 7).n (h 7).c,.bool (h 7).t,.slice (h 7).B (h 7).m (h 7).d,.bool (h 8).s,.slice (h 8).A (h 8).n (h 8).c,.bool (h 8).t,.slice (h 8).B (h 8).m (h 8).d,.bool (h 9).s,.slice (h 9).A (h 9).n (h 9).c,.bool (h 9).t,.slice (h 9).B (h 9).m (h 9).d,.bool (h 10).s,.slice (h 10).A (h 10).n (h 10).c,.bool (h 10).t,.slice (h 10).B (h 10).m (h 10).d] VR from hQ.out.2);clear dY pg hQ;have dH:(Instr.loadAt 67 (.pointer (some ⟨gT,0,none⟩))).run Tryz.prog VR= .ok (.agg #[.int .i64 y.b.F,.int .i64 y.b.S,.slice y.b.A y.b.n y.b.c,.bool y.b.i.s,.slice y.b.i.A y.b.i.n y.b.i.c,.bool y.b.i.t,.slice y.b.i.B y.b.i.m y.b.i.d,.int .i64 y.d.F,.int .i64 y.d.S,.slice y.d.A y.d.n y.d.c,.bool y.d.i.s,.slice y.d.i.A y.d.i.n y.d.i.c,.bool y.d.i.t,.slice y.d.i.B y.d.i.m y.d.i.d,.bool y.j.s,.slice y.j.A y.j.n y.j.c,.bool y.j.t,.slice y.j.B y.j.m y.j.d,.slice (some ⟨gN,0,none⟩) y.n cap]) VR:=run_loadAt_mid _ _ _ _ [.int .i64 y.b.F,.int .i64 y.b.S,.slice y.b.A y.b.n y.b.c,.bool y.b.i.s,.slice y.b.i.A y.b.i.n y.b.i.c,.bool y.b.i.t,.slice y.b.i.B y.b.i.m y.b.i.d,.int .i64 y.d.F,.int .i64 y.d.S,.slice y.d.A y.d.n y.d.c,.bool y.d.i.s,.slice y.d.i.A y.d.i.n y.d.i.c,.bool y.d.i.t,.slice y.d.i.B y.d.i.m y.d.i.d,.bool y.j.s,.slice y.j.A y.j.n y.j.c,.bool y.j.t,.slice y.j.B y.j.m y.j.d,.slice (some ⟨gN,0,none⟩) y.n cap] _ (ak.mid (hE.h3) 0 rfl) Tryz.underlying67 rfl (by kernel_rfl);go_wp2_with (first|refine aK dH rfl rfl rfl ?_|refine bC dH (by rfl) rfl rfl ?_)
     clear dH;refine(ep (y:=(y.two (some ⟨gN,0,none⟩) cap)) (hE.h2) NR.out NS.out Cv.out).mono ?_
     rintro e zQ ⟨pa,rfl,hF,hb⟩
     replace hE:=hE.step hb;clear hb;have Jo:=hE.h2;have pG:yL (rep (y.two (some ⟨gN,0,none⟩) cap).it y.n):=(Cv.out).rep Jo y.n (Nat.le_refl _)
     obtain⟨Qa,hQa⟩:∃Q:Nat->Rat,Q=fun k=>if k=10 then fI (rep (y.two (some ⟨gN,0,none⟩) cap).it y.n) else rep (y.two (some ⟨gN,0,none⟩) cap).it y.n k:=⟨_,rfl⟩
     replace hF:cY Qa 11 pa zQ:=by rw[hQa];exact hF
     have N4:∀k,k<11->fl (Qa k)<=256:=fun k hk=>by
      rw[hQa];show fl (if k=10 then fI (rep (y.two (some ⟨gN,0,none⟩) cap).it y.n) else rep (y.two (some ⟨gN,0,none⟩) cap).it y.n k)<=256
      by_cases h10:k=10
      ·rw[if_pos h10];exact pG.fI.2.2.2.2
      ·rw[if_neg h10];exact pG.l k
     replace hE:=hE.lP hF;clear hF;clear Jo;have Cx:=Lib.hid N4;clear N4;have aaw:=Lib.hid hQa;clear hQa;have aax:=Lib.hid pG;clear pG;obtain⟨VS,hst,dY,iC⟩:=dO zQ 61 (z:=#[.bool false,.slice none 0 0,.bool false,.slice none 0 0,.bool false,.slice none 0 0,.bool false,.slice none 0 0,.bool false,.slice none 0 0,.bool false,.slice none 0 0,.bool false,.slice none 0 0,.bool false,.slice none 0 0,.bool false,.slice none 0 0,.bool false,.slice none 0 0,.bool false,.slice none 0 0,.bool false,.slice none 0 0,.bool false,.slice none 0 0,.bool false,.slice none 0 0,.bool false,.slice none 0 0,.bool false,.slice none 0 0,.bool false,.slice none 0 0,.bool false,.slice none 0 0,.bool false,.slice none 0 0,.bool false,.slice none 0 0,.bool false,.slice none 0 0,.bool false,.slice none 0 0]) (cP pa) rfl (by kernel_rfl) rfl;have hQ:=Lib.hid (And.intro dY iC);clear dY iC
     go_upto_region 17 with(first|refine cC hst rfl rfl rfl rfl ?_)
     clear hst
     obtain⟨gS,KB⟩:∃g,g=zQ.heap.size:=⟨_,rfl⟩
     rw[<-KB] at hQ⊢;have dY:=hQ.out.1;rw[KB] at dY;replace hE:=(hE.step dY).af (show ak 61 gS #[.bool (pa 0).s,.slice (pa 0).A (pa 0).n (pa 0).c,.bool (pa 0).t,.slice (pa 0).B (pa 0).m (pa 0).d,.bool (pa 1).s,.slice (pa 1).A (pa 1).n (pa 1).c,.bool (pa 1).t,.slice (pa 1).B (pa 1).m (pa 1).d,.bool (pa 2).s,.slice (pa 2).A (pa 2).n (pa 2).c,.bool (pa 2).t,.slice (pa 2).B (pa 2).m (pa 2).d,.bool (pa 3).s,.slice (pa 3).A (pa 3).n (pa 3).c,.bool (pa 3).t,.slice (pa 3).B (pa 3).m (pa 3).d,.bool (pa 4).s,.slice (pa 4).A (pa 4).n (pa 4).c,.bool (pa 4).t,.slice (pa 4).B (pa 4).m (pa 4).d,.bool (pa 5).s,.slice (pa 5).A (pa 5).n (pa 5).c,.bool (pa 5).t,.slice (pa 5).B (pa 5).m (pa 5).d,.bool (pa 6).s,.slice (pa 6).A (pa 6).n (pa 6).c,.bool (pa 6).t,.slice (pa 6).B (pa 6).m (pa 6).d,.bool (pa 7).s,.slice (pa 7).A (pa 7).n (pa 7).c,.bool (pa 7).t,.slice (pa 7).B (pa 7).m (pa 7).d,.bool (pa 8).s,.slice (pa 8).A (pa 8).n (pa 8).c,.bool (pa 8).t,.slice (pa 8).B (pa 8).m (pa 8).d,.bool (pa 9).s,.slice (pa 9).A (pa 9).n (pa 9).c,.bool (pa 9).t,.slice (pa 9).B (pa 9).m (pa 9).d,.bool (pa 10).s,.slice (pa 10).A (pa 10).n (pa 10).c,.bool (pa 10).t,.slice (pa 10).B (pa 10).m (pa 10).d] VS from hQ.out.2);clear dY KB hQ
     have Wm:∀k,Qa k=Q k+Q k:=fun k=>by rw[N3.out,aaw.out];exact NJ y _ _ k
     have yB:=Lib.hid Wm;clear Wm;replace hE:=(((((Env.again hE.av).lP (hE.h3)).af (hE.h2)).lP (hE.here.1.2)).af (hE.here.2));go_wp2_with fail
     go_loopw [9] (fun p wr=>∃k:Nat,k<=11/\p= .int .i64 (k:Int)/\Env w (fun V=>((((True/\cY Q 11 h V)/\ak 61 (gR) #[.bool (h 0).s,.slice (h 0).A (h 0).n (h 0).c,.bool (h 0).t,.slice (h 0).B (h 0).m (h 0).d,.bool (h 1).s,.slice (h 1).A (h 1).n (h 1).c,.bool (h 1).t,.slice (h 1).B (h 1).m (h 1).d,.bool (h 2).s,.slice (h 2).A (h 2).n (h 2).c,.bool (h 2).t,.slice (h 2).B (h 2).m (h 2).d,.bool (h 3).s,.slice (h 3).A (h 3).n (h 3).c,.bool (h 3).t,.slice (h 3).B (h 3).m (h 3).d,.bool (h 4).s,.slice (h 4).A (h 4).n (h 4).c,.bool (h 4).t,.slice (h 4).B (h 4).m (h 4).d,.bool (h 5).s,.slice (h 5).A (h 5).n (h 5).c,.bool (h 5).t,.slice (h 5).B (h 5).m (h 5).d,.bool (h 6).s,.slice (h 6).A (h 6).n (h 6).c,.bool (h 6).t,.slice (h 6).B (h 6).m (h 6).d,.bool (h 7).s,.slice (h 7).A (h 7).n (h 7).c,.bool (h 7).t,.slice (h 7).B (h 7).m (h 7).d,.bool (h 8).s,.slice (h 8).A (h 8).n (h 8).c,.bool (h 8).t,.slice (h 8).B (h 8).m (h 8).d,.bool (h 9).s,.slice (h 9).A (h 9).n (h 9).c,.bool (h 9).t,.slice (h 9).B (h 9).m (h 9).d,.bool (h 10).s,.slice (h 10).A (h 10).n (h 10).c,.bool (h 10).t,.slice (h 10).B (h 10).m (h 10).d] V)/\cY Qa 11 pa V)/\ak 61 (gS) #[.bool (pa 0).s,.slice (pa 0).A (pa 0).n (pa 0).c,.bool (pa 0).t,.slice (pa 0).B (pa 0).m (pa 0).d,.bool (pa 1).s,.slice (pa 1).A (pa 1).n (pa 1).c,.bool (pa 1).t,.slice (pa 1).B (pa 1).m (pa 1).d,.bool (pa 2).s,.slice (pa 2).A (pa 2).n (pa 2).c,.bool (pa 2).t,.slice (pa 2).B (pa 2).m (pa 2).d,.bool (pa 3).s,.slice (pa 3).A (pa 3).n (pa 3).c,.bool (pa 3).t,.slice (pa 3).B (pa 3).m (pa 3).d,.bool (pa 4).s,.slice (pa 4).A (pa 4).n (pa 4).c,.bool (pa 4).t,.slice (pa 4).B (pa 4).m (pa 4).d,.bool (pa 5).s,.slice (pa 5).A (pa 5).n (pa 5).c,.bool (pa 5).t,.slice (pa 5).B (pa 5).m (pa 5).d,.bool (pa 6).s,.slice (pa 6).A (pa 6).n (pa 6).c,.bool (pa 6).t,.slice (pa 6).B (pa 6).m (pa 6).d,.bool (pa 7).s,.slice (pa 7).A (pa 7).n (pa 7).c,.bool (pa 7).t,.slice (pa 7).B (pa 7).m (pa 7).d,.bool (pa 8).s,.slice (pa 8).A (pa 8).n (pa 8).c,.bool (pa 8).t,.slice (pa 8).B (pa 8).m (pa 8).d,.bool (pa 9).s,.slice (pa 9).A (pa 9).n (pa 9).c,.bool (pa 9).t,.slice (pa 9).B (pa 9).m (pa 9).d,.bool (pa 10).s,.slice (pa 10).A (pa 10).n (pa 10).c,.bool (pa 10).t,.slice (pa 10).B (pa 10).m (pa 10).d] V)) wr) (fun p _=>11-(intOf p).toNat)
     case atStart=>exact⟨0,Nat.zero_le _,rfl,(((((Env.again hE.av).lP (hE.h3)).af (hE.h2)).lP (hE.here.1.2)).af (hE.here.2))⟩
     case round=>
      clear hE;obtain⟨k,hk,rfl,hE⟩:=hrel;have dH:(Instr.loadAt 61 (.pointer (some ⟨gR,0,none⟩))).run Tryz.prog wr= .ok (.agg (cP h).toArray) wr:=run_loadAt_mid _ _ _ _ (cP h) _ (ak.mid (hE.h2) 0 rfl) Tryz.underlying61 rfl (by kernel_rfl);go_wp2_with (first|refine aK dH rfl rfl rfl ?_|refine bC dH (by rfl) rfl rfl ?_)
      clear dH;refine(iA h _).mono ?_
      rintro e w7 ⟨GL,rfl,hR,hb⟩
      replace hE:=hE.step hb;clear hb hR
      by_cases hlt:k<11
      rotate_left
      ·
       obtain rfl:k=11:=by omega
       have t1:decide (((11:Nat):Int)<11)=false:=decide_eq_false (by decide);have t3:decide ((11:Int)<11)=false:=decide_eq_false (by decide);go_wp2_with fail
       go_ret
       exact⟨rfl,hE.av⟩
      have t1:decide ((k:Int)<11)=true:=decide_eq_true (by omega)
      have t2:(k:Int)<11:=by omega
      go_upto_region 20 with(fail)
      clear t1;replace hE:=hE.drew;refine wp_region_held_drew (S:=fun V=>ak 61 (gR) #[.bool (h 0).s,.slice (h 0).A (h 0).n (h 0).c,.bool (h 0).t,.slice (h 0).B (h 0).m (h 0).d,.bool (h 1).s,.slice (h 1).A (h 1).n (h 1).c,.bool (h 1).t,.slice (h 1).B (h 1).m (h 1).d,.bool (h 2).s,.slice (h 2).A (h 2).n (h 2).c,.bool (h 2).t,.slice (h 2).B (h 2).m (h 2).d,.bool (h 3).s,.slice (h 3).A (h 3).n (h 3).c,.bool (h 3).t,.slice (h 3).B (h 3).m (h 3).d,.bool (h 4).s,.slice (h 4).A (h 4).n (h 4).c,.bool (h 4).t,.slice (h 4).B (h 4).m (h 4).d,.bool (h 5).s,.slice (h 5).A (h 5).n (h 5).c,.bool (h 5).t,.slice (h 5).B (h 5).m (h 5).d,.bool (h 6).s,.slice (h 6).A (h 6).n (h 6).c,.bool (h 6).t,.slice (h 6).B (h 6).m (h 6).d,.bool (h 7).s,.slice (h 7).A (h 7).n (h 7).c,.bool (h 7).t,.slice (h 7).B (h 7).m (h 7).d,.bool (h 8).s,.slice (h 8).A (h 8).n (h 8).c,.bool (h 8).t,.slice (h 8).B (h 8).m (h 8).d,.bool (h 9).s,.slice (h 9).A (h 9).n (h 9).c,.bool (h 9).t,.slice (h 9).B (h 9).m (h 9).d,.bool (h 10).s,.slice (h 10).A (h 10).n (h 10).c,.bool (h 10).t,.slice (h 10).B (h 10).m (h 10).d] V/\ak 61 (gS) #[.bool (pa 0).s,.slice (pa 0).A (pa 0).n (pa 0).c,.bool (pa 0).t,.slice (pa 0).B (pa 0).m (pa 0).d,.bool (pa 1).s,.slice (pa 1).A (pa 1).n (pa 1).c,.bool (pa 1).t,.slice (pa 1).B (pa 1).m (pa 1).d,.bool (pa 2).s,.slice (pa 2).A (pa 2).n (pa 2).c,.bool (pa 2).t,.slice (pa 2).B (pa 2).m (pa 2).d,.bool (pa 3).s,.slice (pa 3).A (pa 3).n (pa 3).c,.bool (pa 3).t,.slice (pa 3).B (pa 3).m (pa 3).d,.bool (pa 4).s,.slice (pa 4).A (pa 4).n (pa 4).c,.bool (pa 4).t,.slice (pa 4).B (pa 4).m (pa 4).d,.bool (pa 5).s,.slice (pa 5).A (pa 5).n (pa 5).c,.bool (pa 5).t,.slice (pa 5).B (pa 5).m (pa 5).d,.bool (pa 6).s,.slice (pa 6).A (pa 6).n (pa 6).c,.bool (pa 6).t,.slice (pa 6).B (pa 6).m (pa 6).d,.bool (pa 7).s,.slice (pa 7).A (pa 7).n (pa 7).c,.bool (pa 7).t,.slice (pa 7).B (pa 7).m (pa 7).d,.bool (pa 8).s,.slice (pa 8).A (pa 8).n (pa 8).c,.bool (pa 8).t,.slice (pa 8).B (pa 8).m (pa 8).d,.bool (pa 9).s,.slice (pa 9).A (pa 9).n (pa 9).c,.bool (pa 9).t,.slice (pa 9).B (pa 9).m (pa 9).d,.bool (pa 10).s,.slice (pa 10).A (pa 10).n (pa 10).c,.bool (pa 10).t,.slice (pa 10).B (pa 10).m (pa 10).d] V) (by kernel_rfl) (⟨hE.h2,hE.here.2⟩) (fun hHeld=> ?_)
      generalize w7.drew=wd at*
      refine wpAnyH_take (i:=0) (v:= .agg (cP pa).toArray) rfl (by kernel_rfl) (by kernel_rfl) (by kernel_rfl) (fun _ _ _ h=>h) (Or.inl ⟨by rfl, ?pF⟩) (by assumption) ?wA
      case pF=>
       intro w ay;exact gC (run_loadAt_mid _ _ _ _ (cP pa) _ (ak.mid (ay.2) 0 rfl) Tryz.underlying61 rfl (by kernel_rfl)) rfl rfl
      try simp only[PL]
      refine tk 2 ?_;refine wpAnyH_take (i:=5) (v:= .agg (cP h).toArray) rfl (by kernel_rfl) (by kernel_rfl) (by kernel_rfl) (fun _ _ _ h=>h) (Or.inl ⟨by rfl, ?Tz⟩) (by assumption) ?abQ
      case Tz=>
       intro w ay;exact gC (run_loadAt_mid _ _ _ _ (cP h) _ (ak.mid (ay.1) 0 rfl) Tryz.underlying61 rfl (by kernel_rfl)) rfl rfl
      try simp only[PL]
      refine tk 7 ?_;refine wpAnyH_take (i:=10) (v:= .agg (cP h).toArray) rfl (by kernel_rfl) (by kernel_rfl) (by kernel_rfl) (fun _ _ _ h=>h) (Or.inl ⟨by rfl, ?Oa⟩) (by assumption) ?aaA
      case Oa=>
       intro w ay;exact gC (run_loadAt_mid _ _ _ _ (cP h) _ (ak.mid (ay.1) 0 rfl) Tryz.underlying61 rfl (by kernel_rfl)) rfl rfl
      try simp only[PL]
      refine tk 12 ?_;refine dP (I:=IvL w _ _ [⟨1,85,DZ pa⟩,⟨3,87,D0 pa k⟩,⟨4,88,eH (Qa k)⟩,⟨6,90,DZ h⟩,⟨8,92,D0 h k⟩,⟨9,93,eH (Q k)⟩,⟨11,95,DZ h⟩,⟨13,97,D0 h k⟩,⟨14,98,eH (Q k)⟩,⟨15,99,eH (Q k+Q k)⟩]) [1,3,4,6,8,9,11,13,14,15] (f1:=2) (by kernel_rfl) (by kernel_rfl) (by kernel_rfl) rfl (by kernel_rfl) (by kernel_rfl) (by rfl) (IvL.start hE (by kernel_rfl)) ?tP ?aej
      case tP=>
       have hst:∀g∈([⟨1,85,DZ pa⟩,⟨3,87,D0 pa k⟩,⟨4,88,eH (Qa k)⟩,⟨6,90,DZ h⟩,⟨8,92,D0 h k⟩,⟨9,93,eH (Q k)⟩,⟨11,95,DZ h⟩,⟨13,97,D0 h k⟩,⟨14,98,eH (Q k)⟩,⟨15,99,eH (Q k+Q k)⟩]:List bz),∀x,bq (g.R x):=(fun g hg=>by simp only[List.mem_cons,List.not_mem_nil,or_false] at hg;rcases hg with rfl|rfl|rfl|rfl|rfl|rfl|rfl|rfl|rfl|rfl<;>first|exact eH.stable _|exact DZ.stable _|exact D0.stable _ _)
       clear hE hHeld;refine aH.cons (ds:=[0]) rfl (by kernel_rfl) (fun D a W0 hI hD K hK=> ?_) ?_
       ·
        have hE:=hI.here;obtain⟨xs,rfl,-,hF⟩:=id hI;obtain⟨jz,vg,aE,j7,eI⟩:=hF.ag;clear hF;subst aE;obtain⟨lI,vh,aE,j8,eR⟩:=eI.ag;clear eI;subst aE;obtain⟨n5,vk,aE,lK,eE⟩:=eR.ag;clear eR;subst aE;obtain⟨n7,vm,aE,j9,fh⟩:=eE.ag;clear eE;subst aE;obtain⟨n8,vn,aE,ke,fj⟩:=fh.ag;clear fh;subst aE;obtain⟨oa,vo,aE,kf,fk⟩:=fj.ag;clear fj;subst aE;obtain⟨jL,vp,aE,ic,fm⟩:=fk.ag;clear fk;subst aE;obtain⟨jM,vq,aE,ie,fo⟩:=fm.ag;clear fm;subst aE;obtain⟨jN,vt,aE,ig,fq⟩:=fo.ag;clear fo;subst aE;obtain⟨jO,vu,aE,iU,eY⟩:=fq.ag;clear fq;subst aE;obtain rfl:=eY.nil;clear eY;try simp only[aT,Act.put,List.setIfInBounds_toArray,List.set_cons_zero,List.set_cons_succ,List.getElem_toArray,List.getElem_cons_succ,List.getElem_cons_zero]
        go_simp;refine(iA pa _).mono ?_
        rintro e W1 ⟨GL,rfl,hR,hb⟩
        have bG:=hE.step hb;go_wp2_with fail
        refine hK.out _ _ (⟨bG.here.1.1.2,bG.here.2⟩) ?_;exact hI.next 0 hst rfl (by kernel_rfl) (by kernel_rfl) (by kernel_rfl) hb ⟨GL,rfl,hR⟩
       refine aH.cons (ds:=[1,2]) rfl (by kernel_rfl) (fun D a W0 hI hD K hK=> ?_) ?_
       ·
        have hE:=hI.here;obtain⟨xs,rfl,-,hF⟩:=id hI;obtain⟨jz,vg,aE,j7,eI⟩:=hF.ag;clear hF;subst aE;obtain⟨lI,vh,aE,j8,eR⟩:=eI.ag;clear eI;subst aE;obtain⟨n5,vk,aE,lK,eE⟩:=eR.ag;clear eR;subst aE;obtain⟨n7,vm,aE,j9,fh⟩:=eE.ag;clear eE;subst aE;obtain⟨n8,vn,aE,ke,fj⟩:=fh.ag;clear fh;subst aE;obtain⟨oa,vo,aE,kf,fk⟩:=fj.ag;clear fj;subst aE;obtain⟨jL,vp,aE,ic,fm⟩:=fk.ag;clear fk;subst aE;obtain⟨jM,vq,aE,ie,fo⟩:=fm.ag;clear fm;subst aE;obtain⟨jN,vt,aE,ig,fq⟩:=fo.ag;clear fo;subst aE;obtain⟨jO,vu,aE,iU,eY⟩:=fq.ag;clear fq;subst aE;obtain rfl:=eY.nil;clear eY;try simp only[aT,Act.put,List.setIfInBounds_toArray,List.set_cons_zero,List.set_cons_succ,List.getElem_toArray,List.getElem_cons_succ,List.getElem_cons_zero]
        obtain⟨GL,rfl,hR⟩:=j7 (hD 1 (by simp));go_simp;refine hK.out _ _ (⟨hE.h2,hE.here.2⟩) ?_;exact hI.next 1 hst rfl (by kernel_rfl) (by kernel_rfl) (by kernel_rfl) (Below.refl _ _) ⟨GL,rfl,hR⟩
       refine aH.cons (ds:=[3]) rfl (by kernel_rfl) (fun D a W0 hI hD K hK=> ?_) ?_
       ·
        have hE:=hI.here;obtain⟨xs,rfl,-,hF⟩:=id hI;obtain⟨jz,vg,aE,j7,eI⟩:=hF.ag;clear hF;subst aE;obtain⟨lI,vh,aE,j8,eR⟩:=eI.ag;clear eI;subst aE;obtain⟨n5,vk,aE,lK,eE⟩:=eR.ag;clear eR;subst aE;obtain⟨n7,vm,aE,j9,fh⟩:=eE.ag;clear eE;subst aE;obtain⟨n8,vn,aE,ke,fj⟩:=fh.ag;clear fh;subst aE;obtain⟨oa,vo,aE,kf,fk⟩:=fj.ag;clear fj;subst aE;obtain⟨jL,vp,aE,ic,fm⟩:=fk.ag;clear fk;subst aE;obtain⟨jM,vq,aE,ie,fo⟩:=fm.ag;clear fm;subst aE;obtain⟨jN,vt,aE,ig,fq⟩:=fo.ag;clear fo;subst aE;obtain⟨jO,vu,aE,iU,eY⟩:=fq.ag;clear fq;subst aE;obtain rfl:=eY.nil;clear eY;try simp only[aT,Act.put,List.setIfInBounds_toArray,List.set_cons_zero,List.set_cons_succ,List.getElem_toArray,List.getElem_cons_succ,List.getElem_cons_zero]
        obtain⟨GL,rfl,hR⟩:=j8 (hD 3 (by simp));have iM:=hR.cH hlt (show 0<4 by decide) (show k*4=k*4+0 by rfl) rfl;have iP:=hR.cH hlt (show 1<4 by decide) (show k*4+1=k*4+1 by rfl) rfl;have jb:=hR.cH hlt (show 2<4 by decide) (show k*4+2=k*4+2 by rfl) rfl;have jc:=hR.cH hlt (show 3<4 by decide) (show k*4+3=k*4+3 by rfl) rfl;go_simp;clear iM iP jb jc;refine hK.out _ _ (⟨hE.h2,hE.here.2⟩) ?_;exact hI.next 2 hst rfl (by kernel_rfl) (by kernel_rfl) (by kernel_rfl) (Below.refl _ _) ⟨(pa k).s,(pa k).A,(pa k).n,(pa k).c,(pa k).t,(pa k).B,(pa k).m,(pa k).d,rfl,(hE.here.1.2) k hlt⟩
       refine aH.cons (ds:=[5,1]) rfl (by kernel_rfl) (fun D a W0 hI hD K hK=> ?_) ?_
       ·
        have hE:=hI.here;obtain⟨xs,rfl,-,hF⟩:=id hI;obtain⟨jz,vg,aE,j7,eI⟩:=hF.ag;clear hF;subst aE;obtain⟨lI,vh,aE,j8,eR⟩:=eI.ag;clear eI;subst aE;obtain⟨n5,vk,aE,lK,eE⟩:=eR.ag;clear eR;subst aE;obtain⟨n7,vm,aE,j9,fh⟩:=eE.ag;clear eE;subst aE;obtain⟨n8,vn,aE,ke,fj⟩:=fh.ag;clear fh;subst aE;obtain⟨oa,vo,aE,kf,fk⟩:=fj.ag;clear fj;subst aE;obtain⟨jL,vp,aE,ic,fm⟩:=fk.ag;clear fk;subst aE;obtain⟨jM,vq,aE,ie,fo⟩:=fm.ag;clear fm;subst aE;obtain⟨jN,vt,aE,ig,fq⟩:=fo.ag;clear fo;subst aE;obtain⟨jO,vu,aE,iU,eY⟩:=fq.ag;clear fq;subst aE;obtain rfl:=eY.nil;clear eY;try simp only[aT,Act.put,List.setIfInBounds_toArray,List.set_cons_zero,List.set_cons_succ,List.getElem_toArray,List.getElem_cons_succ,List.getElem_cons_zero]
        go_simp;refine(iA h _).mono ?_
        rintro e W1 ⟨GL,rfl,hR,hb⟩
        have bG:=hE.step hb;go_wp2_with fail
        refine hK.out _ _ (⟨bG.here.1.1.2,bG.here.2⟩) ?_;exact hI.next 3 hst rfl (by kernel_rfl) (by kernel_rfl) (by kernel_rfl) hb ⟨GL,rfl,hR⟩
       refine aH.cons (ds:=[6,7]) rfl (by kernel_rfl) (fun D a W0 hI hD K hK=> ?_) ?_
       ·
        have hE:=hI.here;obtain⟨xs,rfl,-,hF⟩:=id hI;obtain⟨jz,vg,aE,j7,eI⟩:=hF.ag;clear hF;subst aE;obtain⟨lI,vh,aE,j8,eR⟩:=eI.ag;clear eI;subst aE;obtain⟨n5,vk,aE,lK,eE⟩:=eR.ag;clear eR;subst aE;obtain⟨n7,vm,aE,j9,fh⟩:=eE.ag;clear eE;subst aE;obtain⟨n8,vn,aE,ke,fj⟩:=fh.ag;clear fh;subst aE;obtain⟨oa,vo,aE,kf,fk⟩:=fj.ag;clear fj;subst aE;obtain⟨jL,vp,aE,ic,fm⟩:=fk.ag;clear fk;subst aE;obtain⟨jM,vq,aE,ie,fo⟩:=fm.ag;clear fm;subst aE;obtain⟨jN,vt,aE,ig,fq⟩:=fo.ag;clear fo;subst aE;obtain⟨jO,vu,aE,iU,eY⟩:=fq.ag;clear fq;subst aE;obtain rfl:=eY.nil;clear eY;try simp only[aT,Act.put,List.setIfInBounds_toArray,List.set_cons_zero,List.set_cons_succ,List.getElem_toArray,List.getElem_cons_succ,List.getElem_cons_zero]
        obtain⟨GL,rfl,hR⟩:=j9 (hD 6 (by simp));go_simp;refine hK.out _ _ (⟨hE.h2,hE.here.2⟩) ?_;exact hI.next 4 hst rfl (by kernel_rfl) (by kernel_rfl) (by kernel_rfl) (Below.refl _ _) ⟨GL,rfl,hR⟩
       refine aH.cons (ds:=[8]) rfl (by kernel_rfl) (fun D a W0 hI hD K hK=> ?_) ?_
       ·
        have hE:=hI.here;obtain⟨xs,rfl,-,hF⟩:=id hI;obtain⟨jz,vg,aE,j7,eI⟩:=hF.ag;clear hF;subst aE;obtain⟨lI,vh,aE,j8,eR⟩:=eI.ag;clear eI;subst aE;obtain⟨n5,vk,aE,lK,eE⟩:=eR.ag;clear eR;subst aE;obtain⟨n7,vm,aE,j9,fh⟩:=eE.ag;clear eE;subst aE;obtain⟨n8,vn,aE,ke,fj⟩:=fh.ag;clear fh;subst aE;obtain⟨oa,vo,aE,kf,fk⟩:=fj.ag;clear fj;subst aE;obtain⟨jL,vp,aE,ic,fm⟩:=fk.ag;clear fk;subst aE;obtain⟨jM,vq,aE,ie,fo⟩:=fm.ag;clear fm;subst aE;obtain⟨jN,vt,aE,ig,fq⟩:=fo.ag;clear fo;subst aE;obtain⟨jO,vu,aE,iU,eY⟩:=fq.ag;clear fq;subst aE;obtain rfl:=eY.nil;clear eY;try simp only[aT,Act.put,List.setIfInBounds_toArray,List.set_cons_zero,List.set_cons_succ,List.getElem_toArray,List.getElem_cons_succ,List.getElem_cons_zero]
        obtain⟨GL,rfl,hR⟩:=ke (hD 8 (by simp));have iM:=hR.cH hlt (show 0<4 by decide) (show k*4=k*4+0 by rfl) rfl;have iP:=hR.cH hlt (show 1<4 by decide) (show k*4+1=k*4+1 by rfl) rfl;have jb:=hR.cH hlt (show 2<4 by decide) (show k*4+2=k*4+2 by rfl) rfl;have jc:=hR.cH hlt (show 3<4 by decide) (show k*4+3=k*4+3 by rfl) rfl;go_simp;clear iM iP jb jc;refine hK.out _ _ (⟨hE.h2,hE.here.2⟩) ?_;exact hI.next 5 hst rfl (by kernel_rfl) (by kernel_rfl) (by kernel_rfl) (Below.refl _ _) ⟨(h k).s,(h k).A,(h k).n,(h k).c,(h k).t,(h k).B,(h k).m,(h k).d,rfl,(hE.h3) k hlt⟩
       refine aH.cons (ds:=[10,6]) rfl (by kernel_rfl) (fun D a W0 hI hD K hK=> ?_) ?_
       ·
        have hE:=hI.here;obtain⟨xs,rfl,-,hF⟩:=id hI;obtain⟨jz,vg,aE,j7,eI⟩:=hF.ag;clear hF;subst aE;obtain⟨lI,vh,aE,j8,eR⟩:=eI.ag;clear eI;subst aE;obtain⟨n5,vk,aE,lK,eE⟩:=eR.ag;clear eR;subst aE;obtain⟨n7,vm,aE,j9,fh⟩:=eE.ag;clear eE;subst aE;obtain⟨n8,vn,aE,ke,fj⟩:=fh.ag;clear fh;subst aE;obtain⟨oa,vo,aE,kf,fk⟩:=fj.ag;clear fj;subst aE;obtain⟨jL,vp,aE,ic,fm⟩:=fk.ag;clear fk;subst aE;obtain⟨jM,vq,aE,ie,fo⟩:=fm.ag;clear fm;subst aE;obtain⟨jN,vt,aE,ig,fq⟩:=fo.ag;clear fo;subst aE;obtain⟨jO,vu,aE,iU,eY⟩:=fq.ag;clear fq;subst aE;obtain rfl:=eY.nil;clear eY;try simp only[aT,Act.put,List.setIfInBounds_toArray,List.set_cons_zero,List.set_cons_succ,List.getElem_toArray,List.getElem_cons_succ,List.getElem_cons_zero]
        go_simp;refine(iA h _).mono ?_
        rintro e W1 ⟨GL,rfl,hR,hb⟩
        have bG:=hE.step hb;go_wp2_with fail
        refine hK.out _ _ (⟨bG.here.1.1.2,bG.here.2⟩) ?_;exact hI.next 6 hst rfl (by kernel_rfl) (by kernel_rfl) (by kernel_rfl) hb ⟨GL,rfl,hR⟩
       refine aH.cons (ds:=[11,12]) rfl (by kernel_rfl) (fun D a W0 hI hD K hK=> ?_) ?_
       ·
        have hE:=hI.here;obtain⟨xs,rfl,-,hF⟩:=id hI;obtain⟨jz,vg,aE,j7,eI⟩:=hF.ag;clear hF;subst aE;obtain⟨lI,vh,aE,j8,eR⟩:=eI.ag;clear eI;subst aE;obtain⟨n5,vk,aE,lK,eE⟩:=eR.ag;clear eR;subst aE;obtain⟨n7,vm,aE,j9,fh⟩:=eE.ag;clear eE;subst aE;obtain⟨n8,vn,aE,ke,fj⟩:=fh.ag;clear fh;subst aE;obtain⟨oa,vo,aE,kf,fk⟩:=fj.ag;clear fj;subst aE;obtain⟨jL,vp,aE,ic,fm⟩:=fk.ag;clear fk;subst aE;obtain⟨jM,vq,aE,ie,fo⟩:=fm.ag;clear fm;subst aE;obtain⟨jN,vt,aE,ig,fq⟩:=fo.ag;clear fo;subst aE;obtain⟨jO,vu,aE,iU,eY⟩:=fq.ag;clear fq;subst aE;obtain rfl:=eY.nil;clear eY;try simp only[aT,Act.put,List.setIfInBounds_toArray,List.set_cons_zero,List.set_cons_succ,List.getElem_toArray,List.getElem_cons_succ,List.getElem_cons_zero]
        obtain⟨GL,rfl,hR⟩:=ic (hD 11 (by simp));go_simp;refine hK.out _ _ (⟨hE.h2,hE.here.2⟩) ?_;exact hI.next 7 hst rfl (by kernel_rfl) (by kernel_rfl) (by kernel_rfl) (Below.refl _ _) ⟨GL,rfl,hR⟩
       refine aH.cons (ds:=[13]) rfl (by kernel_rfl) (fun D a W0 hI hD K hK=> ?_) ?_
       ·
        have hE:=hI.here;obtain⟨xs,rfl,-,hF⟩:=id hI;obtain⟨jz,vg,aE,j7,eI⟩:=hF.ag;clear hF;subst aE;obtain⟨lI,vh,aE,j8,eR⟩:=eI.ag;clear eI;subst aE;obtain⟨n5,vk,aE,lK,eE⟩:=eR.ag;clear eR;subst aE;obtain⟨n7,vm,aE,j9,fh⟩:=eE.ag;clear eE;subst aE;obtain⟨n8,vn,aE,ke,fj⟩:=fh.ag;clear fh;subst aE;obtain⟨oa,vo,aE,kf,fk⟩:=fj.ag;clear fj;subst aE;obtain⟨jL,vp,aE,ic,fm⟩:=fk.ag;clear fk;subst aE;obtain⟨jM,vq,aE,ie,fo⟩:=fm.ag;clear fm;subst aE;obtain⟨jN,vt,aE,ig,fq⟩:=fo.ag;clear fo;subst aE;obtain⟨jO,vu,aE,iU,eY⟩:=fq.ag;clear fq;subst aE;obtain rfl:=eY.nil;clear eY;try simp only[aT,Act.put,List.setIfInBounds_toArray,List.set_cons_zero,List.set_cons_succ,List.getElem_toArray,List.getElem_cons_succ,List.getElem_cons_zero]
        obtain⟨GL,rfl,hR⟩:=ie (hD 13 (by simp));have iM:=hR.cH hlt (show 0<4 by decide) (show k*4=k*4+0 by rfl) rfl;have iP:=hR.cH hlt (show 1<4 by decide) (show k*4+1=k*4+1 by rfl) rfl;have jb:=hR.cH hlt (show 2<4 by decide) (show k*4+2=k*4+2 by rfl) rfl;have jc:=hR.cH hlt (show 3<4 by decide) (show k*4+3=k*4+3 by rfl) rfl;go_simp;clear iM iP jb jc;refine hK.out _ _ (⟨hE.h2,hE.here.2⟩) ?_;exact hI.next 8 hst rfl (by kernel_rfl) (by kernel_rfl) (by kernel_rfl) (Below.refl _ _) ⟨(h k).s,(h k).A,(h k).n,(h k).c,(h k).t,(h k).B,(h k).m,(h k).d,rfl,(hE.h3) k hlt⟩
       refine aH.cons (ds:=[9,14,11]) rfl (by kernel_rfl) (fun D a W0 hI hD K hK=> ?_) ?_
       ·
        have hE:=hI.here;obtain⟨xs,rfl,-,hF⟩:=id hI;obtain⟨jz,vg,aE,j7,eI⟩:=hF.ag;clear hF;subst aE;obtain⟨lI,vh,aE,j8,eR⟩:=eI.ag;clear eI;subst aE;obtain⟨n5,vk,aE,lK,eE⟩:=eR.ag;clear eR;subst aE;obtain⟨n7,vm,aE,j9,fh⟩:=eE.ag;clear eE;subst aE;obtain⟨n8,vn,aE,ke,fj⟩:=fh.ag;clear fh;subst aE;obtain⟨oa,vo,aE,kf,fk⟩:=fj.ag;clear fj;subst aE;obtain⟨jL,vp,aE,ic,fm⟩:=fk.ag;clear fk;subst aE;obtain⟨jM,vq,aE,ie,fo⟩:=fm.ag;clear fm;subst aE;obtain⟨jN,vt,aE,ig,fq⟩:=fo.ag;clear fo;subst aE;obtain⟨jO,vu,aE,iU,eY⟩:=fq.ag;clear fq;subst aE;obtain rfl:=eY.nil;clear eY;try simp only[aT,Act.put,List.setIfInBounds_toArray,List.set_cons_zero,List.set_cons_succ,List.getElem_toArray,List.getElem_cons_succ,List.getElem_cons_zero]
        obtain⟨s9,A9,n9,c9,t9,B9,m9,d9,rfl,hq⟩:=kf (hD 9 (by simp));replace hE:=hE.fv hq;clear hq;obtain⟨s14,QO,n14,QS,t14,B14,m14,d14,rfl,hq⟩:=ig (hD 14 (by simp));replace hE:=hE.fv hq;clear hq;go_simp;refine(oB (ca:=c9) (da:=d9) (cb:=QS) (db:=d14) (hE.here.1.2) (hE.here.2) (Jm.out k hlt) (Jm.out k hlt) (by rw[<-yB.out];exact Cx.out k hlt)).mono ?_
        rintro e W1 ⟨ss,As,ns,cs,ts,Bs,ms,ds,rfl,hv,hb⟩
        have bG:=hE.step hb;go_wp2_with fail
        refine hK.out _ _ (⟨bG.here.1.1.1.1.2,bG.here.1.1.2⟩) ?_;exact hI.next 9 hst rfl (by kernel_rfl) (by kernel_rfl) (by kernel_rfl) hb ⟨ss,As,ns,cs,ts,Bs,ms,ds,rfl,hv⟩
       exact aH.nil
      clear hE hHeld;intro D a W20 hI hD;have hE:=hI.here;obtain⟨xs,rfl,-,hF⟩:=id hI;clear hI;obtain⟨jz,vg,aE,j7,eI⟩:=hF.ag;clear hF;subst aE;obtain⟨lI,vh,aE,j8,eR⟩:=eI.ag;clear eI;subst aE;obtain⟨n5,vk,aE,lK,eE⟩:=eR.ag;clear eR;subst aE;obtain⟨n7,vm,aE,j9,fh⟩:=eE.ag;clear eE;subst aE;obtain⟨n8,vn,aE,ke,fj⟩:=fh.ag;clear fh;subst aE;obtain⟨oa,vo,aE,kf,fk⟩:=fj.ag;clear fj;subst aE;obtain⟨jL,vp,aE,ic,fm⟩:=fk.ag;clear fk;subst aE;obtain⟨jM,vq,aE,ie,fo⟩:=fm.ag;clear fm;subst aE;obtain⟨jN,vt,aE,ig,fq⟩:=fo.ag;clear fo;subst aE;obtain⟨jO,vu,aE,iU,eY⟩:=fq.ag;clear fq;subst aE;obtain rfl:=eY.nil;clear eY;obtain⟨GL1,rfl,-⟩:=j7 (hD 1 (by simp));obtain⟨GL3,rfl,-⟩:=j8 (hD 3 (by simp));obtain⟨s4,A4,n4,c4,t4,B4,m4,d4,rfl,NB⟩:=lK (hD 4 (by simp));obtain⟨GL6,rfl,-⟩:=j9 (hD 6 (by simp));obtain⟨GL8,rfl,-⟩:=ke (hD 8 (by simp));obtain⟨s9,A9,n9,c9,t9,B9,m9,d9,rfl,Ni⟩:=kf (hD 9 (by simp));obtain⟨amu,rfl,-⟩:=ic (hD 11 (by simp));obtain⟨amv,rfl,-⟩:=ie (hD 13 (by simp));obtain⟨s14,QO,n14,QS,t14,B14,m14,d14,rfl,Cy⟩:=ig (hD 14 (by simp));obtain⟨s15,WJ,n15,WK,t15,B15,m15,d15,rfl,N6⟩:=iU (hD 15 (by simp));replace hE:=((((hE.fv NB).fv Ni).fv Cy).fv N6);clear hD j7 j8 lK NB j9 ke kf Ni ic ie ig Cy iU N6;try simp only[aT,Act.put,List.setIfInBounds_toArray,List.set_cons_zero,List.set_cons_succ,List.getElem_toArray,List.getElem_cons_succ,List.getElem_cons_zero]
      have hHeld:(fun V=>ak 61 (gR) #[.bool (h 0).s,.slice (h 0).A (h 0).n (h 0).c,.bool (h 0).t,.slice (h 0).B (h 0).m (h 0).d,.bool (h 1).s,.slice (h 1).A (h 1).n (h 1).c,.bool (h 1).t,.slice (h 1).B (h 1).m (h 1).d,.bool (h 2).s,.slice (h 2).A (h 2).n (h 2).c,.bool (h 2).t,.slice (h 2).B (h 2).m (h 2).d,.bool (h 3).s,.slice (h 3).A (h 3).n (h 3).c,.bool (h 3).t,.slice (h 3).B (h 3).m (h 3).d,.bool (h 4).s,.slice (h 4).A (h 4).n (h 4).c,.bool (h 4).t,.slice (h 4).B (h 4).m (h 4).d,.bool (h 5).s,.slice (h 5).A (h 5).n (h 5).c,.bool (h 5).t,.slice (h 5).B (h 5).m (h 5).d,.bool (h 6).s,.slice (h 6).A (h 6).n (h 6).c,.bool (h 6).t,.slice (h 6).B (h 6).m (h 6).d,.bool (h 7).s,.slice (h 7).A (h 7).n (h 7).c,.bool (h 7).t,.slice (h 7).B (h 7).m (h 7).d,.bool (h 8).s,.slice (h 8).A (h 8).n (h 8).c,.bool (h 8).t,.slice (h 8).B (h 8).m (h 8).d,.bool (h 9).s,.slice (h 9).A (h 9).n (h 9).c,.bool (h 9).t,.slice (h 9).B (h 9).m (h 9).d,.bool (h 10).s,.slice (h 10).A (h 10).n (h 10).c,.bool (h 10).t,.slice (h 10).B (h 10).m (h 10).d] V/\ak 61 (gS) #[.bool (pa 0).s,.slice (pa 0).A (pa 0).n (pa 0).c,.bool (pa 0).t,.slice (pa 0).B (pa 0).m (pa 0).d,.bool (pa 1).s,.slice (pa 1).A (pa 1).n (pa 1).c,.bool (pa 1).t,.slice (pa 1).B (pa 1).m (pa 1).d,.bool (pa 2).s,.slice (pa 2).A (pa 2).n (pa 2).c,.bool (pa 2).t,.slice (pa 2).B (pa 2).m (pa 2).d,.bool (pa 3).s,.slice (pa 3).A (pa 3).n (pa 3).c,.bool (pa 3).t,.slice (pa 3).B (pa 3).m (pa 3).d,.bool (pa 4).s,.slice (pa 4).A (pa 4).n (pa 4).c,.bool (pa 4).t,.slice (pa 4).B (pa 4).m (pa 4).d,.bool (pa 5).s,.slice (pa 5).A (pa 5).n (pa 5).c,.bool (pa 5).t,.slice (pa 5).B (pa 5).m (pa 5).d,.bool (pa 6).s,.slice (pa 6).A (pa 6).n (pa 6).c,.bool (pa 6).t,.slice (pa 6).B (pa 6).m (pa 6).d,.bool (pa 7).s,.slice (pa 7).A (pa 7).n (pa 7).c,.bool (pa 7).t,.slice (pa 7).B (pa 7).m (pa 7).d,.bool (pa 8).s,.slice (pa 8).A (pa 8).n (pa 8).c,.bool (pa 8).t,.slice (pa 8).B (pa 8).m (pa 8).d,.bool (pa 9).s,.slice (pa 9).A (pa 9).n (pa 9).c,.bool (pa 9).t,.slice (pa 9).B (pa 9).m (pa 9).d,.bool (pa 10).s,.slice (pa 10).A (pa 10).n (pa 10).c,.bool (pa 10).t,.slice (pa 10).B (pa 10).m (pa 10).d] V) W20:=⟨hE.h6,hE.h4⟩;refine r1 16 (fun K hK=> ?_);go_simp;refine hE.br (ec (v:=true) (ca:=c4) (da:=d4) (cb:=WK) (db:=d15) (hE.h3) (hE.here.2) (Cx.out k hlt) (by rw[<-yB.out];exact Cx.out k hlt) (decide_eq_true (yB.out k))) ?_;clear hE;intro w6 hE;go_wp2_with fail
      refine hK.out _ _ (⟨hE.h6,hE.h4⟩) (fun hHeld=> ?_);clear hK K;try simp only[PL]
      refine tk 17 ?_;refine wpAnyH_done (by kernel_rfl) ?_ _;go_wp2_with fail
      go_roundw
      case rel=>exact⟨k+1,by omega,by go_num,(((((Env.again hE.av).lP (hE.h7)).af (hE.h6)).lP (hE.h5)).af (hE.h4))⟩
      case measure=>simp[intOf];omega
   obtain⟨b,o,hA,eP,hc⟩:=eU.out.2.2.2 (by omega);have ox:=(iR.out.gr hlt).ok.2.2.1
   obtain⟨⟨x,z,a,d⟩,hg⟩:∃g,g=y.r k:=⟨_,rfl⟩
   obtain⟨gV,-⟩:=hc k hlt;rw[<-hg] at gV ox;clear hc;replace ox:0<=a/\a<=1099511627776/\0<=d/\d<=a:=ox;have afV:At b (o+k*12+10) (.int .i64 a) wr:=⟨Nat.lt_of_lt_of_le eP hE.av.size,(hE.av.cell (p:=⟨b,_,none⟩) eP).trans (gV 10 _ rfl)⟩;have afW:At b (o+k*12+11) (.int .i64 d) wr:=⟨Nat.lt_of_lt_of_le eP hE.av.size,(hE.av.cell (p:=⟨b,_,none⟩) eP).trans (gV 11 _ rfl)⟩;replace hE:=(hE.bg afV).bg afW;clear afV afW gV;have t1:decide ((k:Int)<(y.n:Int))=true:=decide_eq_true (by omega)
   have t2:(k:Int)<(y.n:Int):=by omega
   have o1:IntKind.i64.wrap (2*a)=2*a:=by rw[IntKind.wrap_i64];omega
   have o2:IntKind.i64.wrap (2*d)=2*d:=by rw[IntKind.wrap_i64];omega
   have uZ:=Lib.hid hg;clear hg;have HhA:=Lib.hid hA;clear hA;have k7:=(hE.h3).cell 18
   go_upto_region 10 with(fail)
   clear k7;clear t1;replace hE:=hE.drew;refine wp_region_held_drew (S:=fun V=>ak 67 (w.heap.size) #[.int .i64 y.b.F,.int .i64 y.b.S,.slice y.b.A y.b.n y.b.c,.bool y.b.i.s,.slice y.b.i.A y.b.i.n y.b.i.c,.bool y.b.i.t,.slice y.b.i.B y.b.i.m y.b.i.d,.int .i64 y.d.F,.int .i64 y.d.S,.slice y.d.A y.d.n y.d.c,.bool y.d.i.s,.slice y.d.i.A y.d.i.n y.d.i.c,.bool y.d.i.t,.slice y.d.i.B y.d.i.m y.d.i.d,.bool y.j.s,.slice y.j.A y.j.n y.j.c,.bool y.j.t,.slice y.j.B y.j.m y.j.d,.slice y.A y.n y.c] V/\ak 67 (gT) #[.int .i64 y.b.F,.int .i64 y.b.S,.slice y.b.A y.b.n y.b.c,.bool y.b.i.s,.slice y.b.i.A y.b.i.n y.b.i.c,.bool y.b.i.t,.slice y.b.i.B y.b.i.m y.b.i.d,.int .i64 y.d.F,.int .i64 y.d.S,.slice y.d.A y.d.n y.d.c,.bool y.d.i.s,.slice y.d.i.A y.d.i.n y.d.i.c,.bool y.d.i.t,.slice y.d.i.B y.d.i.m y.d.i.d,.bool y.j.s,.slice y.j.A y.j.n y.j.c,.bool y.j.t,.slice y.j.B y.j.m y.j.d,.slice (some ⟨gN,0,none⟩) y.n cap] V/\At b (o+k*12+10) (.int .i64 a) V/\At b (o+k*12+11) (.int .i64 d) V) (by kernel_rfl) (⟨hE.h4,hE.h3,hE.here.1.2,hE.here.2⟩) (fun hHeld=> ?_)
   generalize wr.drew=wd at*
   refine tk 0 ?_
   refine tk 1 ?_ (hy:=by
    intro w ay;have kc:=(ay.2.1).cell 18;clear ay
    first|(go_simp;done)|(go_simp;with_reducible rfl))
   try simp only[PL]
   refine tk 2 ?_;refine tk 3 ?_
   refine tk 4 ?_ (hy:=by
    intro w ay;have kc:=(ay.2.1).cell 18;clear ay
    first|(go_simp;done)|(go_simp;with_reducible rfl))
   try simp only[PL]
   refine tk 5 ?_;refine tk 6 ?_
   refine tk 7 ?_ (hy:=by
    intro w ay;have kc:World.cell? _ _=some (.slice y.A y.n y.c):=(ay.1).cell 18;rw[HhA.out] at kc;clear ay
    first|(go_simp;done)|(go_simp;with_reducible rfl))
   try simp only[PL]
   refine tk 8 ?_;refine tk 9 ?_;refine tk 10 ?_
   refine tk 11 ?_ (hy:=by
    intro w ay;have kc:=(ay.2.2.1).2;clear ay
    first|(go_simp;done)|(go_simp;with_reducible rfl))
   try simp only[PL]
   refine tk 12 ?_;refine tk 13 ?_
   refine tk 14 ?_ (hy:=by
    intro w ay;have kc:World.cell? _ _=some (.slice y.A y.n y.c):=(ay.1).cell 18;rw[HhA.out] at kc;clear ay
    first|(go_simp;done)|(go_simp;with_reducible rfl))
   try simp only[PL]
   refine tk 15 ?_;refine tk 16 ?_;refine tk 17 ?_
   refine tk 18 ?_ (hy:=by
    intro w ay;have kc:=(ay.2.2.2).2;clear ay
    first|(go_simp;done)|(go_simp;with_reducible rfl))
   try simp only[PL]
   refine tk 19 ?_;refine tk 20 ?_;refine tk 21 ?_;refine r1 22 (fun K hK=> ?_);have x8:=Rw.cell (hE.h2) hlt (i:=10) (by decide) rfl (aaz uZ.out);have f8:=Rw.frozen (hE.h2) (k*12+10);have hR8:=Rw.xy (hE.h2) hlt (i:=10) (by decide) (GZ _ _ _) (.int .i64 (2*a)) rfl;obtain⟨cs9,Ob,-,-⟩:=Rw.blk (hE.h2);have DX:wd.grownBy (wd.setCell ⟨gN,k*12+10,none⟩ (.int .i64 (2*a))) (some gN):=(dU [.int .i64 (2*a)] (k*12+10) wd ⟨cs9,Ob,rfl⟩).1;replace hE:=((((((Env.again (hE.av.setCell (p:=⟨gN,k*12+10,none⟩) (show w.heap.size<=gN by omega) (.int .i64 (2*a)))).af ((hE.h4).far (p:=⟨gN,k*12+10,none⟩) (by first|omega|(simp;omega)) (.int .i64 (2*a)))).af ((hE.h3).far (p:=⟨gN,k*12+10,none⟩) (by first|omega|(simp;omega)) (.int .i64 (2*a)))).Ci hR8).bg (At.ax (hE.here.1.2) DX (by omega))).bg (At.ax (hE.here.2) DX (by omega)));go_simp;clear x8 f8 hR8 DX Ob;generalize wd.setCell ⟨gN,k*12+10,none⟩ (.int .i64 (2*a))=V28 at hE⊢;refine hK.out _ _ (⟨hE.h4,hE.h3,hE.here.1.2,hE.here.2⟩) (fun hHeld=> ?_);clear hK K;try simp only[PL]
   refine tk 23 ?_;refine tk 24 ?_;refine r1 25 (fun K hK=> ?_);have x9:=Rw.cell (hE.h2) hlt (i:=11) (by decide) rfl (Ty uZ.out);have f9:=Rw.frozen (hE.h2) (k*12+11);have hR9:=Rw.xy (hE.h2) hlt (i:=11) (by decide) (Tx _ _ _) (.int .i64 (2*d)) rfl;obtain⟨cs9,Ob,-,-⟩:=Rw.blk (hE.h2);have DX:V28.grownBy (V28.setCell ⟨gN,k*12+11,none⟩ (.int .i64 (2*d))) (some gN):=(dU [.int .i64 (2*d)] (k*12+11) V28 ⟨cs9,Ob,rfl⟩).1;replace hE:=((((((Env.again (hE.av.setCell (p:=⟨gN,k*12+11,none⟩) (show w.heap.size<=gN by omega) (.int .i64 (2*d)))).af ((hE.h4).far (p:=⟨gN,k*12+11,none⟩) (by first|omega|(simp;omega)) (.int .i64 (2*d)))).af ((hE.h3).far (p:=⟨gN,k*12+11,none⟩) (by first|omega|(simp;omega)) (.int .i64 (2*d)))).Ci hR9).bg (At.ax (hE.here.1.2) DX (by omega))).bg (At.ax (hE.here.2) DX (by omega)));go_simp;clear x9 f9 hR9 DX Ob;generalize V28.setCell ⟨gN,k*12+11,none⟩ (.int .i64 (2*d))=V29 at hE⊢;refine hK.out _ _ (⟨hE.h4,hE.h3,hE.here.1.2,hE.here.2⟩) (fun hHeld=> ?_);clear hK K;try simp only[PL]
   refine wpAnyH_done (by kernel_rfl) ?_ _;go_wp2_with fail
   go_roundw
   case rel=>
    exact⟨k+1,by omega,by go_num,((((Env.again hE.av).af (hE.h4)).af (hE.h3)).Ci ((hE.h2).congr (fun j hj=>N8 uZ.out j)))⟩
   case measure=>simp[intOf];omega
end Go.Proofs.YtclbiihcbfnjmaaGreat
