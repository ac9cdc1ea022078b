/-
  Parts.
-/
import Derived.Test.YtclbiihcbfnjmaaGreatK21
import Derived.Test.YtclbiihcbfnjmaaGreatK22
set_option linter.unusedSimpArgs false
set_option maxRecDepth 100000
set_option maxHeartbeats 8000000
namespace Go.Proofs.YtclbiihcbfnjmaaGreat
open Go.RowKit

theorem cC {P:Program}{w w':World}{ops:Array Oper}{rest:List Oper}{o:Oper}{a:Act}{Q:Exit->Act->World->Prop}{ty:TypeId}{x y:Operand}{p v:Value}(hr:(Instr.storeAt ty p v).run P w= .ok () w')(hg:o.guard=none)(ho:o.op= .store ty x y)(hx:a.eval x=p)(hy:a.eval y=v)
  (h:wpList P ops Q rest (a.put o.dst undef) w'):wpList P ops Q (o::rest) a w:=
 wpList_plain hg fun _ hK=>by
  unfold Oper.wp execOp;simp only[ho,hx,hy,Sem.run_bind,Sem.run_pure,Result.andThen_ok,hr];exact hK _ _ h
theorem jm (T:TypeId){t:TypeId}{g:Nat}{cs:Array Value}{W:World}(hB:ak t g cs W)(vs:List Value)(hl:cs.size=vs.length)(hs:(Tryz.prog.info? T).map (·.size)=some vs.length)(h1:∀v∈vs,v.oneCell'=true):
  (Instr.storeAt T (.pointer (some ⟨g,0,none⟩)) (.agg vs.toArray)).run Tryz.prog W= .ok () (W.setCells g 0 vs):=
 run_storeAt_mid (P:= Tryz.prog) W g 0 T vs.toArray (by rw[List.size_toArray];exact Dr hB (by omega)) (by rw[List.size_toArray];exact hs) (all_oneCell_toArray h1)
def GM (b:Bh)(x:Ct)(N:Int):Prop:=Tl b.n b.r N b.i.n b.i.m/\(x.p.n<=5/\x.p.m<=5)/\x.n<=300/\x.m<=300
theorem EE {b:Bh}{x:Ct}{N:Int}{w:World}(hT:dA w b.A b.n b.r)(h1:0<=N)(h2:N<=1000000):
  Calls Tryz.prog 50 #[.agg b.C,.agg x.C,.int .i64 N] w (fun e w'=>∃v,e= .returned (.bool v)/\(v=false↔GM b x N)/\Below w.heap.size w w'):=by
 by_cases hs:Tl b.n b.r N b.i.n b.i.m
 ·
  by_cases h3:x.p.n<=5
  ·
   have t1:decide ((5:Int)<(x.p.n:Int))=false:=decide_eq_false (by omega)
   by_cases h4:x.p.m<=5
   ·
    have t2:decide ((5:Int)<(x.p.m:Int))=false:=decide_eq_false (by omega)
    by_cases h5:x.n<=300
    ·
     have t3:decide ((300:Int)<(x.n:Int))=false:=decide_eq_false (by omega)
     by_cases h6:x.m<=300
     ·
      have t4:decide ((300:Int)<(x.m:Int))=false:=decide_eq_false (by omega);have HN:Hid (GM b x N):=Lib.hid ⟨hs,⟨h3,h4⟩,h5,h6⟩;have hE:=(((Env.start w).sK hT).blk 31 b.C (g:=w.heap.size) rfl).blk 36 x.C (g:=w.heap.size+1) (by simp)
      obtain⟨W0,aC⟩:∃W0,W0=((w.alloc (.cells b.C 31)).alloc (.cells x.C 36)):=⟨_,rfl⟩
      rw[<-aC] at hE;have aU:=Lib.hid aC;clear aC
      go_enter Tryz.func50,Tryz.ntmps50
      go_upto_region 1 with(fail)
      rw[<-aU.out];obtain⟨k1,k2,k3,k4,k5,k6,k7⟩:=(hE.here.1.2).c7;go_wp2_with fail
      refine(eJ b.F b.S N b.A b.n b.c b.r b.i.s b.i.t b.i.A b.i.B b.i.n b.i.m b.i.c b.i.d _ (hE.h2) h1 h2).mono ?_;clear k1 k2 k3 k4 k5 k6 k7
      rintro e w9 ⟨v,rfl,hv,hb⟩
      obtain rfl:v=false:=hv.2 hs;clear hv;replace hE:=hE.step hb;clear hb;have k8:=(hE.here.2).cell 4;have k9:=(hE.here.2).cell 6;have eG:=(hE.here.2).cell 7;have cS:=(hE.here.2).cell 8;go_wp2_with fail
      go_ret
      exact⟨false,rfl,⟨fun _=>HN.out,fun _=>rfl⟩,hE.av⟩
     ·
      have t4:decide ((300:Int)<(x.m:Int))=true:=decide_eq_true (by omega);have HN:Hid (¬GM b x N):=Lib.hid (fun h=>h6 (h.2.2.2));have hE:=(((Env.start w).sK hT).blk 31 b.C (g:=w.heap.size) rfl).blk 36 x.C (g:=w.heap.size+1) (by simp)
      obtain⟨W0,aC⟩:∃W0,W0=((w.alloc (.cells b.C 31)).alloc (.cells x.C 36)):=⟨_,rfl⟩
      rw[<-aC] at hE;have aU:=Lib.hid aC;clear aC
      go_enter Tryz.func50,Tryz.ntmps50
      go_upto_region 1 with(fail)
      rw[<-aU.out];obtain⟨k1,k2,k3,k4,k5,k6,k7⟩:=(hE.here.1.2).c7;go_wp2_with fail
      refine(eJ b.F b.S N b.A b.n b.c b.r b.i.s b.i.t b.i.A b.i.B b.i.n b.i.m b.i.c b.i.d _ (hE.h2) h1 h2).mono ?_;clear k1 k2 k3 k4 k5 k6 k7
      rintro e w9 ⟨v,rfl,hv,hb⟩
      obtain rfl:v=false:=hv.2 hs;clear hv;replace hE:=hE.step hb;clear hb;have k8:=(hE.here.2).cell 4;have k9:=(hE.here.2).cell 6;have eG:=(hE.here.2).cell 7;have cS:=(hE.here.2).cell 8;go_wp2_with fail
      go_ret
      exact⟨true,rfl,iZ HN.out,hE.av⟩
    ·
     have t3:decide ((300:Int)<(x.n:Int))=true:=decide_eq_true (by omega);have HN:Hid (¬GM b x N):=Lib.hid (fun h=>h5 (h.2.2.1));have hE:=(((Env.start w).sK hT).blk 31 b.C (g:=w.heap.size) rfl).blk 36 x.C (g:=w.heap.size+1) (by simp)
     obtain⟨W0,aC⟩:∃W0,W0=((w.alloc (.cells b.C 31)).alloc (.cells x.C 36)):=⟨_,rfl⟩
     rw[<-aC] at hE;have aU:=Lib.hid aC;clear aC
     go_enter Tryz.func50,Tryz.ntmps50
     go_upto_region 1 with(fail)
     rw[<-aU.out];obtain⟨k1,k2,k3,k4,k5,k6,k7⟩:=(hE.here.1.2).c7;go_wp2_with fail
     refine(eJ b.F b.S N b.A b.n b.c b.r b.i.s b.i.t b.i.A b.i.B b.i.n b.i.m b.i.c b.i.d _ (hE.h2) h1 h2).mono ?_;clear k1 k2 k3 k4 k5 k6 k7
     rintro e w9 ⟨v,rfl,hv,hb⟩
     obtain rfl:v=false:=hv.2 hs;clear hv;replace hE:=hE.step hb;clear hb;have k8:=(hE.here.2).cell 4;have k9:=(hE.here.2).cell 6;have eG:=(hE.here.2).cell 7;have cS:=(hE.here.2).cell 8;go_wp2_with fail
     go_ret
     exact⟨true,rfl,iZ HN.out,hE.av⟩
   ·
    have t2:decide ((5:Int)<(x.p.m:Int))=true:=decide_eq_true (by omega);have HN:Hid (¬GM b x N):=Lib.hid (fun h=>h4 (h.2.1.2));have hE:=(((Env.start w).sK hT).blk 31 b.C (g:=w.heap.size) rfl).blk 36 x.C (g:=w.heap.size+1) (by simp)
    obtain⟨W0,aC⟩:∃W0,W0=((w.alloc (.cells b.C 31)).alloc (.cells x.C 36)):=⟨_,rfl⟩
    rw[<-aC] at hE;have aU:=Lib.hid aC;clear aC
    go_enter Tryz.func50,Tryz.ntmps50
    go_upto_region 1 with(fail)
    rw[<-aU.out];obtain⟨k1,k2,k3,k4,k5,k6,k7⟩:=(hE.here.1.2).c7;go_wp2_with fail
    refine(eJ b.F b.S N b.A b.n b.c b.r b.i.s b.i.t b.i.A b.i.B b.i.n b.i.m b.i.c b.i.d _ (hE.h2) h1 h2).mono ?_;clear k1 k2 k3 k4 k5 k6 k7
    rintro e w9 ⟨v,rfl,hv,hb⟩
    obtain rfl:v=false:=hv.2 hs;clear hv;replace hE:=hE.step hb;clear hb;have k8:=(hE.here.2).cell 4;have k9:=(hE.here.2).cell 6;have eG:=(hE.here.2).cell 7;have cS:=(hE.here.2).cell 8;go_wp2_with fail
    go_ret
    exact⟨true,rfl,iZ HN.out,hE.av⟩
  ·
   have t1:decide ((5:Int)<(x.p.n:Int))=true:=decide_eq_true (by omega);have HN:Hid (¬GM b x N):=Lib.hid (fun h=>h3 (h.2.1.1));have hE:=(((Env.start w).sK hT).blk 31 b.C (g:=w.heap.size) rfl).blk 36 x.C (g:=w.heap.size+1) (by simp)
   obtain⟨W0,aC⟩:∃W0,W0=((w.alloc (.cells b.C 31)).alloc (.cells x.C 36)):=⟨_,rfl⟩
   rw[<-aC] at hE;have aU:=Lib.hid aC;clear aC
   go_enter Tryz.func50,Tryz.ntmps50
   go_upto_region 1 with(fail)
   rw[<-aU.out];obtain⟨k1,k2,k3,k4,k5,k6,k7⟩:=(hE.here.1.2).c7;go_wp2_with fail
   refine(eJ b.F b.S N b.A b.n b.c b.r b.i.s b.i.t b.i.A b.i.B b.i.n b.i.m b.i.c b.i.d _ (hE.h2) h1 h2).mono ?_;clear k1 k2 k3 k4 k5 k6 k7
   rintro e w9 ⟨v,rfl,hv,hb⟩
   obtain rfl:v=false:=hv.2 hs;clear hv;replace hE:=hE.step hb;clear hb;have k8:=(hE.here.2).cell 4;have k9:=(hE.here.2).cell 6;have eG:=(hE.here.2).cell 7;have cS:=(hE.here.2).cell 8;go_wp2_with fail
   go_ret
   exact⟨true,rfl,iZ HN.out,hE.av⟩
 ·
  have HN:Hid (¬GM b x N):=Lib.hid (fun h=>hs (h.1));have hE:=(((Env.start w).sK hT).blk 31 b.C (g:=w.heap.size) rfl).blk 36 x.C (g:=w.heap.size+1) (by simp)
  obtain⟨W0,aC⟩:∃W0,W0=((w.alloc (.cells b.C 31)).alloc (.cells x.C 36)):=⟨_,rfl⟩
  rw[<-aC] at hE;have aU:=Lib.hid aC;clear aC
  go_enter Tryz.func50,Tryz.ntmps50
  go_upto_region 1 with(fail)
  rw[<-aU.out];obtain⟨k1,k2,k3,k4,k5,k6,k7⟩:=(hE.here.1.2).c7;go_wp2_with fail
  refine(eJ b.F b.S N b.A b.n b.c b.r b.i.s b.i.t b.i.A b.i.B b.i.n b.i.m b.i.c b.i.d _ (hE.h2) h1 h2).mono ?_;clear k1 k2 k3 k4 k5 k6 k7
  rintro e w9 ⟨v,rfl,hv,hb⟩
  obtain rfl:v=true:=by cases v with|true=>rfl|false=>exact absurd (hv.1 rfl) hs
  clear hv;replace hE:=hE.step hb;clear hb;go_wp2_with fail
  go_ret
  exact⟨true,rfl,iZ HN.out,hE.av⟩
theorem GM.bd {b:Bh}{x:Ct}{N:Int}(h:GM b x N)(hN:N<=100)(hT:-9223372036854775808<=x.T/\x.T<=9223372036854775807):b.bd/\x.bd:=by
 obtain⟨⟨h1,h2,h3⟩,⟨h4,h5⟩,h6,h7⟩:=h;exact⟨⟨h1.b (by omega) (by decide) (by decide),by omega,by omega⟩,hT,⟨by omega,by omega⟩,by omega,by omega⟩
end Go.Proofs.YtclbiihcbfnjmaaGreat
