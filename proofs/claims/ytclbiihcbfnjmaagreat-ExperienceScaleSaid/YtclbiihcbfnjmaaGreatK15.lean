/-
  Parts.
-/
import Derived.Test.YtclbiihcbfnjmaaGreatK14
set_option linter.unusedSimpArgs false
set_option maxRecDepth 100000
set_option maxHeartbeats 4000000
namespace Go.Proofs.YtclbiihcbfnjmaaGreat
open Go.RowKit Go.Shelf
attribute [local go_sem] Oper.semAt_some

structure Yr where
 k:Nat
 s:Bool
 A:Option Addr
 n:Nat
 c:Nat
 t:Bool
 B:Option Addr
 m:Nat
 d:Nat
def Yr.vals (x:Yr):Array Value:=#[.int .i64 (x.k:Int),.agg (az x.s x.A x.n x.c x.t x.B x.m x.d)]
def Yr.fit (q:Nat->Rat)(pre:List Yr)(x:Yr)(W:World):Prop:=x.k=pre.length/\FV W (q x.k) x.s x.A x.n x.t x.B x.m
def Ia (l:List Yr)(j:Nat):Prop:=l.map Yr.k=List.range j
theorem Ia.nil :Ia [] 0:=rfl
theorem Ia.snoc {l:List Yr}{j:Nat}{x:Yr}(h:Ia l j)(hx:x.k=j):Ia (l++ [x]) (j+1):=by
 unfold Ia at*
 rw[List.map_append,h,List.range_succ,<-hx];rfl
theorem Ia.length {l:List Yr}{j:Nat}(h:Ia l j):l.length=j:=by
 have:=congrArg List.length h
 simpa using this
theorem sL.blk {n₀ Bs:Nat}{t:TypeId}{cs:Array Value}{W W':World}(h:sL n₀ Bs W W')(hb:ak t Bs cs W):ak t Bs cs W':=h.2.trans hb

theorem jF (B:Nat)(w:World):Below B w w.drew:=⟨rfl,rfl,rfl,Nat.le_refl _,fun _ _=>rfl⟩
theorem JN (m:Nat)(hm:2<=m)(l Bs n₀:Nat){F S E Y:Int}{A:Option Addr}{n c:Nat}{r:Nat->RH}{w:World}(hn₀:w.heap.size<=n₀)(hT:dA w A n r)(hR:cB F S n r E Y)(M:Nat)(hM:M<=1000)(zT:∀k:Nat,k<M->E+Y+(k:Int)<=F+(n:Int)-1)(hMb:F+(n:Int)-1<E+Y+(M:Int))
  (J Jx:List Yr->World->Prop)
  (hJ:∀pre (W W':World),J pre W->Below W.heap.size W W'->J pre W')
  (hY:∀pre x W,J pre W->Yr.fit (fun k=>rt F S n r E Y (k:Int)) pre x W->pre.length<M+1->YieldAt Fence.wide (m-1) Tryz.prog l x.vals W fun e W'=>
   (e= .returned (.bool true)/\J (pre++ [x]) W'/\sL n₀ Bs W W')\/(e= .returned (.bool false)/\Jx (pre++ [x]) W'))
  (W:World) (Fp:ak 106 Bs #[.int .i64 F,.int .i64 S,.slice A n c,.int .i64 E,.int .i64 Y] W) (hW:Below w.heap.size w W) (h0:J [] W):
  CallsIn Fence.wide m Tryz.prog 186 #[.func (.yield l) #[] #[],.pointer (some ⟨Bs,0,none⟩)] W fun e W'=>(∃v,e= .returned v)/\
   ((∃ys,Ia ys (M+1)/\J ys W')\/(∃pre,(∃j,j<=M+1/\Ia pre j)/\Jx pre W')):=by
 have hro:Fence.wide.round=none:=rfl;refine callsIn_of_wp Tryz.func186 rfl trivial ?_ hro;simp only[Tryz.ntmps186,List.size_toArray,List.length_cons,List.length_nil,Nat.reduceAdd,Nat.reduceSub,Array.replicate_succ,Array.replicate_zero,List.push_toArray,List.append_toArray,List.nil_append,List.cons_append]
 gi_wp2
 gi_loopw [3] (fun i wr=>∃(k:Nat) (pre:List Yr),k<=M/\i= .int .i64 (k:Int)/\Ia pre k/\J pre wr/\ak 106 Bs #[.int .i64 F,.int .i64 S,.slice A n c,.int .i64 E,.int .i64 Y] wr/\Below w.heap.size w wr)
  (fun i _=>(M+1-(intOf i).toNat))
 case atStart=>exact⟨0,[],Nat.zero_le _,rfl,Ia.nil,h0,Fp,hW⟩
 case round=>
  obtain⟨k,pre,hk,rfl,hys,hJs,aaW,aV⟩:=hrel;obtain⟨k0,k1,k2,k3,k4⟩:=aaW.c5;obtain⟨ht,r1,r2,r3,r4⟩:=id hR;obtain⟨f1,f2,s1,s2,n1,n2⟩:0<=F/\F<=150/\0<=S/\S<=5/\1<=n/\n<=111:=⟨ht.1.1.1,ht.1.1.2,ht.1.2.1,ht.1.2.2,ht.2.1.1,ht.2.1.2⟩
  have o1:IntKind.i64.wrap (E+Y)=E+Y:=by rw[IntKind.wrap_i64];omega
  have o2:IntKind.i64.wrap (E+Y+(k:Int))=E+Y+(k:Int):=by rw[IntKind.wrap_i64];omega
  have o3:IntKind.i64.wrap ((k:Int)+1)=(k:Int)+1:=by rw[IntKind.wrap_i64];omega
  have hmx: Tryz.prog.follows .mixedOrders=true:=by kernel_rfl
  gi_wp2
  refine wpIn_region_any (by assumption) ?_
  try(change wpAnyIn _ _ _ _ _ _ _ _ _ (World.drew _))
  refine wpAnyIn_take (i:=0) (v:= ?aqJ) rfl rfl (by kernel_rfl) (by kernel_rfl) (by kernel_rfl) (fun _ _ _ h=>h) ⟨Or.inl ⟨by rfl, ?agr⟩,fun _=>rfl⟩ ?aiN
  case agr=>intro w;first|(go_simp;done)|(go_simp;with_reducible rfl)
  try simp only[PL]
  refine wpAnyIn_take (i:=1) (v:= ?aqK) rfl rfl (by kernel_rfl) (by kernel_rfl) (by kernel_rfl) (fun _ _ _ h=>h) ⟨Or.inl ⟨by rfl, ?ags⟩,fun _=>rfl⟩ ?aiO
  case ags=>intro w;first|(go_simp;done)|(go_simp;with_reducible rfl)
  try simp only[PL]
  refine wpAnyIn_take (i:=3) (v:= ?aqL) rfl rfl (by kernel_rfl) (by kernel_rfl) (by kernel_rfl) (fun _ _ _ h=>h) ⟨Or.inl ⟨by rfl, ?agt⟩,fun _=>rfl⟩ ?aiP
  case agt=>intro w;first|(go_simp;done)|(go_simp;with_reducible rfl)
  try simp only[PL]
  refine wpAnyIn_ready (rs:=[2]) (by kernel_rfl) (by simp) ?_;refine AllReadyIn.cons rfl (fun K hK=> ?_) ?_
  ·
   go_simp;refine hK _ _ ?_;clear hK K;try simp only[PL]
   refine wpAnyIn_ready (rs:=[4]) (by kernel_rfl) (by simp) ?_;refine AllReadyIn.cons rfl (fun K hK=> ?_) ?_
   ·
    go_simp;refine⟨trivial,fun _=>by omega,(callsIn_wide.2 (H8 (k:=(k:Int)) (hT.below (aV.trans (jF _ _))) hR (by omega) (by omega))).mono ?_⟩
    rintro e w1 ⟨s1,A1,n1,c1,t1,B1,m1,d1,rfl,eR,dI⟩
    have dL:ak 106 Bs #[.int .i64 F,.int .i64 S,.slice A n c,.int .i64 E,.int .i64 Y] w1:=(dI.block Bs aaW.lt).trans aaW;have dD:Below w.heap.size w w1:=(aV.trans (jF _ _)).trans (dI.mono (aV.trans (jF _ _)).size);have hJ1:=hJ _ _ _ (hJ _ _ _ hJs (jF _ _)) dI;obtain⟨fn,tmps,assign,body,hy,wM⟩:=hY _ ⟨k,s1,A1,n1,c1,t1,B1,m1,d1⟩ w1 hJ1 ⟨hys.length.symm,eR⟩ (by rw[hys.length];omega)
    gi_wp2_with fail
    refine wpAnyIn_ready (rs:=[5]) (by kernel_rfl) (by simp) ?_;refine AllReadyIn.cons rfl (fun K hK=> ?_) ?_
    ·
     dsimp only[Yr.vals] at hy
     go_simp;refine⟨fun _=>by omega,wM.mono ?_⟩
     rintro e W3 (⟨rfl,JO,hk3⟩|⟨rfl,aaX⟩)
     ·
      have fT:=hk3.blk dL;obtain⟨k0,k1,k2,k3,k4⟩:=fT.c5;have dM:Below w.heap.size w W3:=(dD.trans (hk3.1.mono hn₀))
      gi_wp2_with fail
      refine wpAnyIn_take (i:=6) (v:= ?aqM) rfl rfl (by kernel_rfl) (by kernel_rfl) (by kernel_rfl) (fun _ _ _ h=>h) ⟨Or.inl ⟨by rfl, ?agu⟩,fun _=>rfl⟩ ?aiQ
      case agu=>intro w;first|(go_simp;done)|(go_simp;with_reducible rfl)
      try simp only[PL]
      refine wpAnyIn_take (i:=7) (v:= ?aqN) rfl rfl (by kernel_rfl) (by kernel_rfl) (by kernel_rfl) (fun _ _ _ h=>h) ⟨Or.inl ⟨by rfl, ?agv⟩,fun _=>rfl⟩ ?aiR
      case agv=>intro w;first|(go_simp;done)|(go_simp;with_reducible rfl)
      try simp only[PL]
      refine wpAnyIn_take (i:=8) (v:= ?aqO) rfl rfl (by kernel_rfl) (by kernel_rfl) (by kernel_rfl) (fun _ _ _ h=>h) ⟨Or.inl ⟨by rfl, ?agw⟩,fun _=>rfl⟩ ?aiS
      case agw=>intro w;first|(go_simp;done)|(go_simp;with_reducible rfl)
      try simp only[PL]
      refine wpAnyIn_take (i:=9) (v:= ?aqP) rfl rfl (by kernel_rfl) (by kernel_rfl) (by kernel_rfl) (fun _ _ _ h=>h) ⟨Or.inl ⟨by rfl, ?agx⟩,fun _=>rfl⟩ ?aiT
      case agx=>intro w;first|(go_simp;done)|(go_simp;with_reducible rfl)
      try simp only[PL]
      refine wpAnyIn_take (i:=11) (v:= ?ao7) rfl rfl (by kernel_rfl) (by kernel_rfl) (by kernel_rfl) (fun _ _ _ h=>h) ⟨Or.inl ⟨by rfl, ?aaY⟩,fun _=>rfl⟩ ?agy
      case aaY=>intro w;first|(go_simp;done)|(go_simp;with_reducible rfl)
      try simp only[PL]
      refine wpAnyIn_take (i:=12) (v:= ?ao8) rfl rfl (by kernel_rfl) (by kernel_rfl) (by kernel_rfl) (fun _ _ _ h=>h) ⟨Or.inl ⟨by rfl, ?aaZ⟩,fun _=>rfl⟩ ?agz
      case aaZ=>intro w;first|(go_simp;done)|(go_simp;with_reducible rfl)
      try simp only[PL]
      refine wpAnyIn_take (i:=15) (v:= ?amV) rfl rfl (by kernel_rfl) (by kernel_rfl) (by kernel_rfl) (fun _ _ _ h=>h) ⟨Or.inl ⟨by rfl, ?T6⟩,fun _=>rfl⟩ ?abS
      case T6=>intro w;first|(go_simp;done)|(go_simp;with_reducible rfl)
      try simp only[PL]
      refine wpAnyIn_take (i:=17) (v:= ?amW) rfl rfl (by kernel_rfl) (by kernel_rfl) (by kernel_rfl) (fun _ _ _ h=>h) ⟨Or.inl ⟨by rfl, ?T7⟩,fun _=>rfl⟩ ?abT
      case T7=>intro w;first|(go_simp;done)|(go_simp;with_reducible rfl)
      try simp only[PL]
      refine wpAnyIn_ready (rs:=[10,13,18]) (by kernel_rfl) (by simp) ?_;refine AllReadyIn.cons rfl (fun K hK=> ?_) ?_
      ·
       go_simp;refine hK _ _ ?_;clear hK K;try simp only[PL]
       refine wpAnyIn_ready (rs:=[13,18]) (by kernel_rfl) (by simp) ?_;refine AllReadyIn.cons rfl (fun K hK=> ?_) ?_
       ·
        go_simp;refine hK _ _ ?_;clear hK K;try simp only[PL]
        refine wpAnyIn_take (i:=14) (v:= ?amX) rfl rfl (by kernel_rfl) (by kernel_rfl) (by kernel_rfl) (fun _ _ _ h=>h) ⟨Or.inl ⟨by rfl, ?T8⟩,fun _=>rfl⟩ ?abU
        case T8=>intro w;first|(go_simp;done)|(go_simp;with_reducible rfl)
        try simp only[PL]
        refine wpAnyIn_take (i:=16) (v:= ?amY) rfl rfl (by kernel_rfl) (by kernel_rfl) (by kernel_rfl) (fun _ _ _ h=>h) ⟨Or.inl ⟨by rfl, ?T9⟩,fun _=>rfl⟩ ?abV
        case T9=>intro w;first|(go_simp;done)|(go_simp;with_reducible rfl)
        try simp only[PL]
        refine wpAnyIn_ready (rs:=[18]) (by kernel_rfl) (by simp) ?_;refine AllReadyIn.cons rfl (fun K hK=> ?_) ?_
        ·
         go_simp;refine hK _ _ ?_;clear hK K;try simp only[PL]
         refine wpAnyIn_ready (rs:=[19]) (by kernel_rfl) (by simp) ?_;refine AllReadyIn.cons rfl (fun K hK=> ?_) ?_
         ·
          go_simp;refine⟨trivial,fun _=>by omega,(callsIn_wide.2 (dJ F S A n c _ f1 (by omega) (by omega))).mono ?_⟩
          rintro e w4 ⟨rfl,gQ⟩
          have fO:ak 106 Bs #[.int .i64 F,.int .i64 S,.slice A n c,.int .i64 E,.int .i64 Y] w4:=(gQ.block Bs fT.lt).trans fT;obtain⟨k0,k1,k2,k3,k4⟩:=fO.c5;have nG:=hJ _ _ _ JO gQ;have eF:Below w.heap.size w w4:=dM.trans (gQ.mono dM.size)
          gi_wp2_with fail
          refine wpAnyIn_take (i:=20) (v:= ?amZ) rfl rfl (by kernel_rfl) (by kernel_rfl) (by kernel_rfl) (fun _ _ _ h=>h) ⟨Or.inl ⟨by rfl, ?Ua⟩,fun _=>rfl⟩ ?abW
          case Ua=>intro w;first|(go_simp;done)|(go_simp;with_reducible rfl)
          try simp only[PL]
          refine wpAnyIn_take (i:=21) (v:= ?am0) rfl rfl (by kernel_rfl) (by kernel_rfl) (by kernel_rfl) (fun _ _ _ h=>h) ⟨Or.inl ⟨by rfl, ?Ub⟩,fun _=>rfl⟩ ?abX
          case Ub=>intro w;first|(go_simp;done)|(go_simp;with_reducible rfl)
          try simp only[PL]
          refine wpAnyIn_done (by kernel_rfl) ?_ _
          by_cases uG:k<M
          ·
           have vB:=zT k uG
           have Ph:¬(F+(n:Int)-1<E+Y+(k:Int)):=by omega
           gi_wp2
           go_roundw
           case rel=>exact⟨k+1,_,by omega,by(try simp only[Pj])<;>norm_cast,hys.snoc rfl,nG,fO,eF⟩
           case measure=>simp[intOf]<;>omega
          ·
           obtain rfl:k=M:=by omega
           gi_wp2
           refine bodyPost_ret (results_none rfl _ _ _) rfl ?_;exact⟨⟨_,rfl⟩,.inl ⟨_,hys.snoc rfl,nG⟩⟩
         exact AllReadyIn.nil
        exact AllReadyIn.nil
       refine AllReadyIn.cons rfl (fun K hK=> ?_) ?_
       ·
        go_simp;refine hK _ _ ?_;clear hK K;try simp only[PL]
        refine wpAnyIn_ready (rs:=[13,19]) (by kernel_rfl) (by simp) ?_;refine AllReadyIn.cons rfl (fun K hK=> ?_) ?_
        ·
         go_simp;refine hK _ _ ?_;clear hK K;try simp only[PL]
         refine wpAnyIn_take (i:=14) (v:= ?am1) rfl rfl (by kernel_rfl) (by kernel_rfl) (by kernel_rfl) (fun _ _ _ h=>h) ⟨Or.inl ⟨by rfl, ?Uc⟩,fun _=>rfl⟩ ?abY
         case Uc=>intro w;first|(go_simp;done)|(go_simp;with_reducible rfl)
         try simp only[PL]
         refine wpAnyIn_take (i:=16) (v:= ?am2) rfl rfl (by kernel_rfl) (by kernel_rfl) (by kernel_rfl) (fun _ _ _ h=>h) ⟨Or.inl ⟨by rfl, ?Ud⟩,fun _=>rfl⟩ ?abZ
         case Ud=>intro w;first|(go_simp;done)|(go_simp;with_reducible rfl)
         try simp only[PL]
         refine wpAnyIn_ready (rs:=[19]) (by kernel_rfl) (by simp) ?_;refine AllReadyIn.cons rfl (fun K hK=> ?_) ?_
         ·
          go_simp;refine⟨trivial,fun _=>by omega,(callsIn_wide.2 (dJ F S A n c _ f1 (by omega) (by omega))).mono ?_⟩
          rintro e w4 ⟨rfl,gQ⟩
          have fO:ak 106 Bs #[.int .i64 F,.int .i64 S,.slice A n c,.int .i64 E,.int .i64 Y] w4:=(gQ.block Bs fT.lt).trans fT;obtain⟨k0,k1,k2,k3,k4⟩:=fO.c5;have nG:=hJ _ _ _ JO gQ;have eF:Below w.heap.size w w4:=dM.trans (gQ.mono dM.size)
          gi_wp2_with fail
          refine wpAnyIn_take (i:=20) (v:= ?am3) rfl rfl (by kernel_rfl) (by kernel_rfl) (by kernel_rfl) (fun _ _ _ h=>h) ⟨Or.inl ⟨by rfl, ?Ue⟩,fun _=>rfl⟩ ?ab0
          case Ue=>intro w;first|(go_simp;done)|(go_simp;with_reducible rfl)
          try simp only[PL]
          refine wpAnyIn_take (i:=21) (v:= ?am4) rfl rfl (by kernel_rfl) (by kernel_rfl) (by kernel_rfl) (fun _ _ _ h=>h) ⟨Or.inl ⟨by rfl, ?Uf⟩,fun _=>rfl⟩ ?ab1
          case Uf=>intro w;first|(go_simp;done)|(go_simp;with_reducible rfl)
          try simp only[PL]
          refine wpAnyIn_done (by kernel_rfl) ?_ _
          by_cases uG:k<M
          ·
           have vB:=zT k uG
           have Ph:¬(F+(n:Int)-1<E+Y+(k:Int)):=by omega
           gi_wp2
           go_roundw
           case rel=>exact⟨k+1,_,by omega,by(try simp only[Pj])<;>norm_cast,hys.snoc rfl,nG,fO,eF⟩
           case measure=>simp[intOf]<;>omega
          ·
           obtain rfl:k=M:=by omega
           gi_wp2
           refine bodyPost_ret (results_none rfl _ _ _) rfl ?_;exact⟨⟨_,rfl⟩,.inl ⟨_,hys.snoc rfl,nG⟩⟩
         exact AllReadyIn.nil
        refine AllReadyIn.cons rfl (fun K hK=> ?_) ?_
        ·
         go_simp;refine⟨trivial,fun _=>by omega,(callsIn_wide.2 (dJ F S A n c _ f1 (by omega) (by omega))).mono ?_⟩
         rintro e w4 ⟨rfl,gQ⟩
         have fO:ak 106 Bs #[.int .i64 F,.int .i64 S,.slice A n c,.int .i64 E,.int .i64 Y] w4:=(gQ.block Bs fT.lt).trans fT;obtain⟨k0,k1,k2,k3,k4⟩:=fO.c5;have nG:=hJ _ _ _ JO gQ;have eF:Below w.heap.size w w4:=dM.trans (gQ.mono dM.size)
         gi_wp2_with fail
         refine wpAnyIn_ready (rs:=[13]) (by kernel_rfl) (by simp) ?_;refine AllReadyIn.cons rfl (fun K hK=> ?_) ?_
         ·
          go_simp;refine hK _ _ ?_;clear hK K;try simp only[PL]
          refine wpAnyIn_take (i:=14) (v:= ?am5) rfl rfl (by kernel_rfl) (by kernel_rfl) (by kernel_rfl) (fun _ _ _ h=>h) ⟨Or.inl ⟨by rfl, ?Ug⟩,fun _=>rfl⟩ ?ab2
          case Ug=>intro w;first|(go_simp;done)|(go_simp;with_reducible rfl)
          try simp only[PL]
          refine wpAnyIn_take (i:=16) (v:= ?am6) rfl rfl (by kernel_rfl) (by kernel_rfl) (by kernel_rfl) (fun _ _ _ h=>h) ⟨Or.inl ⟨by rfl, ?Uh⟩,fun _=>rfl⟩ ?ab3
          case Uh=>intro w;first|(go_simp;done)|(go_simp;with_reducible rfl)
          try simp only[PL]
          refine wpAnyIn_take (i:=20) (v:= ?am7) rfl rfl (by kernel_rfl) (by kernel_rfl) (by kernel_rfl) (fun _ _ _ h=>h) ⟨Or.inl ⟨by rfl, ?Ui⟩,fun _=>rfl⟩ ?ab4
          case Ui=>intro w;first|(go_simp;done)|(go_simp;with_reducible rfl)
          try simp only[PL]
          refine wpAnyIn_take (i:=21) (v:= ?am8) rfl rfl (by kernel_rfl) (by kernel_rfl) (by kernel_rfl) (fun _ _ _ h=>h) ⟨Or.inl ⟨by rfl, ?Uj⟩,fun _=>rfl⟩ ?ab5
          case Uj=>intro w;first|(go_simp;done)|(go_simp;with_reducible rfl)
          try simp only[PL]
          refine wpAnyIn_done (by kernel_rfl) ?_ _
          by_cases uG:k<M
          ·
           have vB:=zT k uG
           have Ph:¬(F+(n:Int)-1<E+Y+(k:Int)):=by omega
           gi_wp2
           go_roundw
           case rel=>exact⟨k+1,_,by omega,by(try simp only[Pj])<;>norm_cast,hys.snoc rfl,nG,fO,eF⟩
           case measure=>simp[intOf]<;>omega
          ·
           obtain rfl:k=M:=by omega
           gi_wp2
           refine bodyPost_ret (results_none rfl _ _ _) rfl ?_;exact⟨⟨_,rfl⟩,.inl ⟨_,hys.snoc rfl,nG⟩⟩
         exact AllReadyIn.nil
        exact AllReadyIn.nil
       exact AllReadyIn.nil
      refine AllReadyIn.cons rfl (fun K hK=> ?_) ?_
      ·
       go_simp;refine hK _ _ ?_;clear hK K;try simp only[PL]
       refine wpAnyIn_ready (rs:=[10,18]) (by kernel_rfl) (by simp) ?_;refine AllReadyIn.cons rfl (fun K hK=> ?_) ?_
       ·
        go_simp;refine hK _ _ ?_;clear hK K;try simp only[PL]
        refine wpAnyIn_take (i:=14) (v:= ?am9) rfl rfl (by kernel_rfl) (by kernel_rfl) (by kernel_rfl) (fun _ _ _ h=>h) ⟨Or.inl ⟨by rfl, ?Uk⟩,fun _=>rfl⟩ ?ab6
        case Uk=>intro w;first|(go_simp;done)|(go_simp;with_reducible rfl)
        try simp only[PL]
        refine wpAnyIn_take (i:=16) (v:= ?ana) rfl rfl (by kernel_rfl) (by kernel_rfl) (by kernel_rfl) (fun _ _ _ h=>h) ⟨Or.inl ⟨by rfl, ?Ul⟩,fun _=>rfl⟩ ?ab7
        case Ul=>intro w;first|(go_simp;done)|(go_simp;with_reducible rfl)
        try simp only[PL]
        refine wpAnyIn_ready (rs:=[18]) (by kernel_rfl) (by simp) ?_;refine AllReadyIn.cons rfl (fun K hK=> ?_) ?_
        ·
         go_simp;refine hK _ _ ?_;clear hK K;try simp only[PL]
         refine wpAnyIn_ready (rs:=[19]) (by kernel_rfl) (by simp) ?_;refine AllReadyIn.cons rfl (fun K hK=> ?_) ?_
         ·
          go_simp;refine⟨trivial,fun _=>by omega,(callsIn_wide.2 (dJ F S A n c _ f1 (by omega) (by omega))).mono ?_⟩
          rintro e w4 ⟨rfl,gQ⟩
          have fO:ak 106 Bs #[.int .i64 F,.int .i64 S,.slice A n c,.int .i64 E,.int .i64 Y] w4:=(gQ.block Bs fT.lt).trans fT;obtain⟨k0,k1,k2,k3,k4⟩:=fO.c5;have nG:=hJ _ _ _ JO gQ;have eF:Below w.heap.size w w4:=dM.trans (gQ.mono dM.size)
          gi_wp2_with fail
          refine wpAnyIn_take (i:=20) (v:= ?anb) rfl rfl (by kernel_rfl) (by kernel_rfl) (by kernel_rfl) (fun _ _ _ h=>h) ⟨Or.inl ⟨by rfl, ?Um⟩,fun _=>rfl⟩ ?ab8
          case Um=>intro w;first|(go_simp;done)|(go_simp;with_reducible rfl)
          try simp only[PL]
          refine wpAnyIn_take (i:=21) (v:= ?anc) rfl rfl (by kernel_rfl) (by kernel_rfl) (by kernel_rfl) (fun _ _ _ h=>h) ⟨Or.inl ⟨by rfl, ?Un⟩,fun _=>rfl⟩ ?ab9
          case Un=>intro w;first|(go_simp;done)|(go_simp;with_reducible rfl)
          try simp only[PL]
          refine wpAnyIn_done (by kernel_rfl) ?_ _
          by_cases uG:k<M
          ·
           have vB:=zT k uG
           have Ph:¬(F+(n:Int)-1<E+Y+(k:Int)):=by omega
           gi_wp2
           go_roundw
           case rel=>exact⟨k+1,_,by omega,by(try simp only[Pj])<;>norm_cast,hys.snoc rfl,nG,fO,eF⟩
           case measure=>simp[intOf]<;>omega
          ·
           obtain rfl:k=M:=by omega
           gi_wp2
           refine bodyPost_ret (results_none rfl _ _ _) rfl ?_;exact⟨⟨_,rfl⟩,.inl ⟨_,hys.snoc rfl,nG⟩⟩
         exact AllReadyIn.nil
        exact AllReadyIn.nil
       refine AllReadyIn.cons rfl (fun K hK=> ?_) ?_
       ·
        go_simp;refine hK _ _ ?_;clear hK K;try simp only[PL]
        refine wpAnyIn_ready (rs:=[10,19]) (by kernel_rfl) (by simp) ?_;refine AllReadyIn.cons rfl (fun K hK=> ?_) ?_
        ·
         go_simp;refine hK _ _ ?_;clear hK K;try simp only[PL]
         refine wpAnyIn_take (i:=14) (v:= ?ane) rfl rfl (by kernel_rfl) (by kernel_rfl) (by kernel_rfl) (fun _ _ _ h=>h) ⟨Or.inl ⟨by rfl, ?Uo⟩,fun _=>rfl⟩ ?acd
         case Uo=>intro w;first|(go_simp;done)|(go_simp;with_reducible rfl)
         try simp only[PL]
         refine wpAnyIn_take (i:=16) (v:= ?anf) rfl rfl (by kernel_rfl) (by kernel_rfl) (by kernel_rfl) (fun _ _ _ h=>h) ⟨Or.inl ⟨by rfl, ?Up⟩,fun _=>rfl⟩ ?ace
         case Up=>intro w;first|(go_simp;done)|(go_simp;with_reducible rfl)
         try simp only[PL]
         refine wpAnyIn_ready (rs:=[19]) (by kernel_rfl) (by simp) ?_;refine AllReadyIn.cons rfl (fun K hK=> ?_) ?_
         ·
          go_simp;refine⟨trivial,fun _=>by omega,(callsIn_wide.2 (dJ F S A n c _ f1 (by omega) (by omega))).mono ?_⟩
          rintro e w4 ⟨rfl,gQ⟩
          have fO:ak 106 Bs #[.int .i64 F,.int .i64 S,.slice A n c,.int .i64 E,.int .i64 Y] w4:=(gQ.block Bs fT.lt).trans fT;obtain⟨k0,k1,k2,k3,k4⟩:=fO.c5;have nG:=hJ _ _ _ JO gQ;have eF:Below w.heap.size w w4:=dM.trans (gQ.mono dM.size)
          gi_wp2_with fail
          refine wpAnyIn_take (i:=20) (v:= ?ang) rfl rfl (by kernel_rfl) (by kernel_rfl) (by kernel_rfl) (fun _ _ _ h=>h) ⟨Or.inl ⟨by rfl, ?Uq⟩,fun _=>rfl⟩ ?acf
          case Uq=>intro w;first|(go_simp;done)|(go_simp;with_reducible rfl)
          try simp only[PL]
          refine wpAnyIn_take (i:=21) (v:= ?anh) rfl rfl (by kernel_rfl) (by kernel_rfl) (by kernel_rfl) (fun _ _ _ h=>h) ⟨Or.inl ⟨by rfl, ?Ur⟩,fun _=>rfl⟩ ?acg
          case Ur=>intro w;first|(go_simp;done)|(go_simp;with_reducible rfl)
          try simp only[PL]
          refine wpAnyIn_done (by kernel_rfl) ?_ _
          by_cases uG:k<M
          ·
           have vB:=zT k uG
           have Ph:¬(F+(n:Int)-1<E+Y+(k:Int)):=by omega
           gi_wp2
           go_roundw
           case rel=>exact⟨k+1,_,by omega,by(try simp only[Pj])<;>norm_cast,hys.snoc rfl,nG,fO,eF⟩
           case measure=>simp[intOf]<;>omega
          ·
           obtain rfl:k=M:=by omega
           gi_wp2
           refine bodyPost_ret (results_none rfl _ _ _) rfl ?_;exact⟨⟨_,rfl⟩,.inl ⟨_,hys.snoc rfl,nG⟩⟩
         exact AllReadyIn.nil
        refine AllReadyIn.cons rfl (fun K hK=> ?_) ?_
        ·
         go_simp;refine⟨trivial,fun _=>by omega,(callsIn_wide.2 (dJ F S A n c _ f1 (by omega) (by omega))).mono ?_⟩
         rintro e w4 ⟨rfl,gQ⟩
         have fO:ak 106 Bs #[.int .i64 F,.int .i64 S,.slice A n c,.int .i64 E,.int .i64 Y] w4:=(gQ.block Bs fT.lt).trans fT;obtain⟨k0,k1,k2,k3,k4⟩:=fO.c5;have nG:=hJ _ _ _ JO gQ;have eF:Below w.heap.size w w4:=dM.trans (gQ.mono dM.size)
         gi_wp2_with fail
         refine wpAnyIn_ready (rs:=[10]) (by kernel_rfl) (by simp) ?_;refine AllReadyIn.cons rfl (fun K hK=> ?_) ?_
         ·
          go_simp;refine hK _ _ ?_;clear hK K;try simp only[PL]
          refine wpAnyIn_take (i:=14) (v:= ?ani) rfl rfl (by kernel_rfl) (by kernel_rfl) (by kernel_rfl) (fun _ _ _ h=>h) ⟨Or.inl ⟨by rfl, ?Us⟩,fun _=>rfl⟩ ?ach
          case Us=>intro w;first|(go_simp;done)|(go_simp;with_reducible rfl)
          try simp only[PL]
          refine wpAnyIn_take (i:=16) (v:= ?anj) rfl rfl (by kernel_rfl) (by kernel_rfl) (by kernel_rfl) (fun _ _ _ h=>h) ⟨Or.inl ⟨by rfl, ?Ut⟩,fun _=>rfl⟩ ?aci
          case Ut=>intro w;first|(go_simp;done)|(go_simp;with_reducible rfl)
          try simp only[PL]
          refine wpAnyIn_take (i:=20) (v:= ?ank) rfl rfl (by kernel_rfl) (by kernel_rfl) (by kernel_rfl) (fun _ _ _ h=>h) ⟨Or.inl ⟨by rfl, ?Uu⟩,fun _=>rfl⟩ ?acj
          case Uu=>intro w;first|(go_simp;done)|(go_simp;with_reducible rfl)
          try simp only[PL]
          refine wpAnyIn_take (i:=21) (v:= ?anl) rfl rfl (by kernel_rfl) (by kernel_rfl) (by kernel_rfl) (fun _ _ _ h=>h) ⟨Or.inl ⟨by rfl, ?Uv⟩,fun _=>rfl⟩ ?ack
          case Uv=>intro w;first|(go_simp;done)|(go_simp;with_reducible rfl)
          try simp only[PL]
          refine wpAnyIn_done (by kernel_rfl) ?_ _
          by_cases uG:k<M
          ·
           have vB:=zT k uG
           have Ph:¬(F+(n:Int)-1<E+Y+(k:Int)):=by omega
           gi_wp2
           go_roundw
           case rel=>exact⟨k+1,_,by omega,by(try simp only[Pj])<;>norm_cast,hys.snoc rfl,nG,fO,eF⟩
           case measure=>simp[intOf]<;>omega
          ·
           obtain rfl:k=M:=by omega
           gi_wp2
           refine bodyPost_ret (results_none rfl _ _ _) rfl ?_;exact⟨⟨_,rfl⟩,.inl ⟨_,hys.snoc rfl,nG⟩⟩
         exact AllReadyIn.nil
        exact AllReadyIn.nil
       exact AllReadyIn.nil
      refine AllReadyIn.cons rfl (fun K hK=> ?_) ?_
      ·
       go_simp;refine hK _ _ ?_;clear hK K;try simp only[PL]
       refine wpAnyIn_ready (rs:=[10,13,19]) (by kernel_rfl) (by simp) ?_;refine AllReadyIn.cons rfl (fun K hK=> ?_) ?_
       ·
        go_simp;refine hK _ _ ?_;clear hK K;try simp only[PL]
        refine wpAnyIn_ready (rs:=[13,19]) (by kernel_rfl) (by simp) ?_;refine AllReadyIn.cons rfl (fun K hK=> ?_) ?_
        ·
         go_simp;refine hK _ _ ?_;clear hK K;try simp only[PL]
         refine wpAnyIn_take (i:=14) (v:= ?anm) rfl rfl (by kernel_rfl) (by kernel_rfl) (by kernel_rfl) (fun _ _ _ h=>h) ⟨Or.inl ⟨by rfl, ?Uw⟩,fun _=>rfl⟩ ?acm
         case Uw=>intro w;first|(go_simp;done)|(go_simp;with_reducible rfl)
         try simp only[PL]
         refine wpAnyIn_take (i:=16) (v:= ?ann) rfl rfl (by kernel_rfl) (by kernel_rfl) (by kernel_rfl) (fun _ _ _ h=>h) ⟨Or.inl ⟨by rfl, ?Ux⟩,fun _=>rfl⟩ ?acn
         case Ux=>intro w;first|(go_simp;done)|(go_simp;with_reducible rfl)
         try simp only[PL]
         refine wpAnyIn_ready (rs:=[19]) (by kernel_rfl) (by simp) ?_;refine AllReadyIn.cons rfl (fun K hK=> ?_) ?_
         ·
          go_simp;refine⟨trivial,fun _=>by omega,(callsIn_wide.2 (dJ F S A n c _ f1 (by omega) (by omega))).mono ?_⟩
          rintro e w4 ⟨rfl,gQ⟩
          have fO:ak 106 Bs #[.int .i64 F,.int .i64 S,.slice A n c,.int .i64 E,.int .i64 Y] w4:=(gQ.block Bs fT.lt).trans fT;obtain⟨k0,k1,k2,k3,k4⟩:=fO.c5;have nG:=hJ _ _ _ JO gQ;have eF:Below w.heap.size w w4:=dM.trans (gQ.mono dM.size)
          gi_wp2_with fail
          refine wpAnyIn_take (i:=20) (v:= ?ano) rfl rfl (by kernel_rfl) (by kernel_rfl) (by kernel_rfl) (fun _ _ _ h=>h) ⟨Or.inl ⟨by rfl, ?Uy⟩,fun _=>rfl⟩ ?aco
          case Uy=>intro w;first|(go_simp;done)|(go_simp;with_reducible rfl)
          try simp only[PL]
          refine wpAnyIn_take (i:=21) (v:= ?anp) rfl rfl (by kernel_rfl) (by kernel_rfl) (by kernel_rfl) (fun _ _ _ h=>h) ⟨Or.inl ⟨by rfl, ?Uz⟩,fun _=>rfl⟩ ?acp
          case Uz=>intro w;first|(go_simp;done)|(go_simp;with_reducible rfl)
          try simp only[PL]
          refine wpAnyIn_done (by kernel_rfl) ?_ _
          by_cases uG:k<M
          ·
           have vB:=zT k uG
           have Ph:¬(F+(n:Int)-1<E+Y+(k:Int)):=by omega
           gi_wp2
           go_roundw
           case rel=>exact⟨k+1,_,by omega,by(try simp only[Pj])<;>norm_cast,hys.snoc rfl,nG,fO,eF⟩
           case measure=>simp[intOf]<;>omega
          ·
           obtain rfl:k=M:=by omega
           gi_wp2
           refine bodyPost_ret (results_none rfl _ _ _) rfl ?_;exact⟨⟨_,rfl⟩,.inl ⟨_,hys.snoc rfl,nG⟩⟩
         exact AllReadyIn.nil
        refine AllReadyIn.cons rfl (fun K hK=> ?_) ?_
        ·
         go_simp;refine⟨trivial,fun _=>by omega,(callsIn_wide.2 (dJ F S A n c _ f1 (by omega) (by omega))).mono ?_⟩
         rintro e w4 ⟨rfl,gQ⟩
         have fO:ak 106 Bs #[.int .i64 F,.int .i64 S,.slice A n c,.int .i64 E,.int .i64 Y] w4:=(gQ.block Bs fT.lt).trans fT;obtain⟨k0,k1,k2,k3,k4⟩:=fO.c5;have nG:=hJ _ _ _ JO gQ;have eF:Below w.heap.size w w4:=dM.trans (gQ.mono dM.size)
         gi_wp2_with fail
         refine wpAnyIn_ready (rs:=[13]) (by kernel_rfl) (by simp) ?_;refine AllReadyIn.cons rfl (fun K hK=> ?_) ?_
         ·
          go_simp;refine hK _ _ ?_;clear hK K;try simp only[PL]
          refine wpAnyIn_take (i:=14) (v:= ?anq) rfl rfl (by kernel_rfl) (by kernel_rfl) (by kernel_rfl) (fun _ _ _ h=>h) ⟨Or.inl ⟨by rfl, ?UA⟩,fun _=>rfl⟩ ?acq
          case UA=>intro w;first|(go_simp;done)|(go_simp;with_reducible rfl)
          try simp only[PL]
          refine wpAnyIn_take (i:=16) (v:= ?anr) rfl rfl (by kernel_rfl) (by kernel_rfl) (by kernel_rfl) (fun _ _ _ h=>h) ⟨Or.inl ⟨by rfl, ?UB⟩,fun _=>rfl⟩ ?acs
          case UB=>intro w;first|(go_simp;done)|(go_simp;with_reducible rfl)
          try simp only[PL]
          refine wpAnyIn_take (i:=20) (v:= ?ans) rfl rfl (by kernel_rfl) (by kernel_rfl) (by kernel_rfl) (fun _ _ _ h=>h) ⟨Or.inl ⟨by rfl, ?UC⟩,fun _=>rfl⟩ ?acu
          case UC=>intro w;first|(go_simp;done)|(go_simp;with_reducible rfl)
          try simp only[PL]
          refine wpAnyIn_take (i:=21) (v:= ?ant) rfl rfl (by kernel_rfl) (by kernel_rfl) (by kernel_rfl) (fun _ _ _ h=>h) ⟨Or.inl ⟨by rfl, ?UD⟩,fun _=>rfl⟩ ?acv
          case UD=>intro w;first|(go_simp;done)|(go_simp;with_reducible rfl)
          try simp only[PL]
          refine wpAnyIn_done (by kernel_rfl) ?_ _
          by_cases uG:k<M
          ·
           have vB:=zT k uG
           have Ph:¬(F+(n:Int)-1<E+Y+(k:Int)):=by omega
           gi_wp2
           go_roundw
           case rel=>exact⟨k+1,_,by omega,by(try simp only[Pj])<;>norm_cast,hys.snoc rfl,nG,fO,eF⟩
           case measure=>simp[intOf]<;>omega
          ·
           obtain rfl:k=M:=by omega
           gi_wp2
           refine bodyPost_ret (results_none rfl _ _ _) rfl ?_;exact⟨⟨_,rfl⟩,.inl ⟨_,hys.snoc rfl,nG⟩⟩
         exact AllReadyIn.nil
        exact AllReadyIn.nil
       refine AllReadyIn.cons rfl (fun K hK=> ?_) ?_
       ·
        go_simp;refine hK _ _ ?_;clear hK K;try simp only[PL]
        refine wpAnyIn_ready (rs:=[10,19]) (by kernel_rfl) (by simp) ?_;refine AllReadyIn.cons rfl (fun K hK=> ?_) ?_
        ·
         go_simp;refine hK _ _ ?_;clear hK K;try simp only[PL]
         refine wpAnyIn_take (i:=14) (v:= ?anu) rfl rfl (by kernel_rfl) (by kernel_rfl) (by kernel_rfl) (fun _ _ _ h=>h) ⟨Or.inl ⟨by rfl, ?UE⟩,fun _=>rfl⟩ ?acw
         case UE=>intro w;first|(go_simp;done)|(go_simp;with_reducible rfl)
         try simp only[PL]
         refine wpAnyIn_take (i:=16) (v:= ?anv) rfl rfl (by kernel_rfl) (by kernel_rfl) (by kernel_rfl) (fun _ _ _ h=>h) ⟨Or.inl ⟨by rfl, ?UF⟩,fun _=>rfl⟩ ?acy
         case UF=>intro w;first|(go_simp;done)|(go_simp;with_reducible rfl)
         try simp only[PL]
         refine wpAnyIn_ready (rs:=[19]) (by kernel_rfl) (by simp) ?_;refine AllReadyIn.cons rfl (fun K hK=> ?_) ?_
         ·
          go_simp;refine⟨trivial,fun _=>by omega,(callsIn_wide.2 (dJ F S A n c _ f1 (by omega) (by omega))).mono ?_⟩
          rintro e w4 ⟨rfl,gQ⟩
          have fO:ak 106 Bs #[.int .i64 F,.int .i64 S,.slice A n c,.int .i64 E,.int .i64 Y] w4:=(gQ.block Bs fT.lt).trans fT;obtain⟨k0,k1,k2,k3,k4⟩:=fO.c5;have nG:=hJ _ _ _ JO gQ;have eF:Below w.heap.size w w4:=dM.trans (gQ.mono dM.size)
          gi_wp2_with fail
          refine wpAnyIn_take (i:=20) (v:= ?anw) rfl rfl (by kernel_rfl) (by kernel_rfl) (by kernel_rfl) (fun _ _ _ h=>h) ⟨Or.inl ⟨by rfl, ?UG⟩,fun _=>rfl⟩ ?acz
          case UG=>intro w;first|(go_simp;done)|(go_simp;with_reducible rfl)
          try simp only[PL]
          refine wpAnyIn_take (i:=21) (v:= ?anx) rfl rfl (by kernel_rfl) (by kernel_rfl) (by kernel_rfl) (fun _ _ _ h=>h) ⟨Or.inl ⟨by rfl, ?UH⟩,fun _=>rfl⟩ ?acA
          case UH=>intro w;first|(go_simp;done)|(go_simp;with_reducible rfl)
          try simp only[PL]
          refine wpAnyIn_done (by kernel_rfl) ?_ _
          by_cases uG:k<M
          ·
           have vB:=zT k uG
           have Ph:¬(F+(n:Int)-1<E+Y+(k:Int)):=by omega
           gi_wp2
           go_roundw
           case rel=>exact⟨k+1,_,by omega,by(try simp only[Pj])<;>norm_cast,hys.snoc rfl,nG,fO,eF⟩
           case measure=>simp[intOf]<;>omega
          ·
           obtain rfl:k=M:=by omega
           gi_wp2
           refine bodyPost_ret (results_none rfl _ _ _) rfl ?_;exact⟨⟨_,rfl⟩,.inl ⟨_,hys.snoc rfl,nG⟩⟩
         exact AllReadyIn.nil
        refine AllReadyIn.cons rfl (fun K hK=> ?_) ?_
        ·
         go_simp;refine⟨trivial,fun _=>by omega,(callsIn_wide.2 (dJ F S A n c _ f1 (by omega) (by omega))).mono ?_⟩
         rintro e w4 ⟨rfl,gQ⟩
         have fO:ak 106 Bs #[.int .i64 F,.int .i64 S,.slice A n c,.int .i64 E,.int .i64 Y] w4:=(gQ.block Bs fT.lt).trans fT;obtain⟨k0,k1,k2,k3,k4⟩:=fO.c5;have nG:=hJ _ _ _ JO gQ;have eF:Below w.heap.size w w4:=dM.trans (gQ.mono dM.size)
         gi_wp2_with fail
         refine wpAnyIn_ready (rs:=[10]) (by kernel_rfl) (by simp) ?_;refine AllReadyIn.cons rfl (fun K hK=> ?_) ?_
         ·
          go_simp;refine hK _ _ ?_;clear hK K;try simp only[PL]
          refine wpAnyIn_take (i:=14) (v:= ?anz) rfl rfl (by kernel_rfl) (by kernel_rfl) (by kernel_rfl) (fun _ _ _ h=>h) ⟨Or.inl ⟨by rfl, ?UI⟩,fun _=>rfl⟩ ?acB
          case UI=>intro w;first|(go_simp;done)|(go_simp;with_reducible rfl)
          try simp only[PL]
          refine wpAnyIn_take (i:=16) (v:= ?anA) rfl rfl (by kernel_rfl) (by kernel_rfl) (by kernel_rfl) (fun _ _ _ h=>h) ⟨Or.inl ⟨by rfl, ?UJ⟩,fun _=>rfl⟩ ?acC
          case UJ=>intro w;first|(go_simp;done)|(go_simp;with_reducible rfl)
          try simp only[PL]
          refine wpAnyIn_take (i:=20) (v:= ?anB) rfl rfl (by kernel_rfl) (by kernel_rfl) (by kernel_rfl) (fun _ _ _ h=>h) ⟨Or.inl ⟨by rfl, ?UK⟩,fun _=>rfl⟩ ?acD
          case UK=>intro w;first|(go_simp;done)|(go_simp;with_reducible rfl)
          try simp only[PL]
          refine wpAnyIn_take (i:=21) (v:= ?anC) rfl rfl (by kernel_rfl) (by kernel_rfl) (by kernel_rfl) (fun _ _ _ h=>h) ⟨Or.inl ⟨by rfl, ?UL⟩,fun _=>rfl⟩ ?acE
          case UL=>intro w;first|(go_simp;done)|(go_simp;with_reducible rfl)
          try simp only[PL]
          refine wpAnyIn_done (by kernel_rfl) ?_ _
          by_cases uG:k<M
          ·
           have vB:=zT k uG
           have Ph:¬(F+(n:Int)-1<E+Y+(k:Int)):=by omega
           gi_wp2
           go_roundw
           case rel=>exact⟨k+1,_,by omega,by(try simp only[Pj])<;>norm_cast,hys.snoc rfl,nG,fO,eF⟩
           case measure=>simp[intOf]<;>omega
          ·
           obtain rfl:k=M:=by omega
           gi_wp2
           refine bodyPost_ret (results_none rfl _ _ _) rfl ?_;exact⟨⟨_,rfl⟩,.inl ⟨_,hys.snoc rfl,nG⟩⟩
         exact AllReadyIn.nil
        exact AllReadyIn.nil
       refine AllReadyIn.cons rfl (fun K hK=> ?_) ?_
       ·
        go_simp;refine⟨trivial,fun _=>by omega,(callsIn_wide.2 (dJ F S A n c _ f1 (by omega) (by omega))).mono ?_⟩
        rintro e w4 ⟨rfl,gQ⟩
        have fO:ak 106 Bs #[.int .i64 F,.int .i64 S,.slice A n c,.int .i64 E,.int .i64 Y] w4:=(gQ.block Bs fT.lt).trans fT;obtain⟨k0,k1,k2,k3,k4⟩:=fO.c5;have nG:=hJ _ _ _ JO gQ;have eF:Below w.heap.size w w4:=dM.trans (gQ.mono dM.size)
        gi_wp2_with fail
        refine wpAnyIn_ready (rs:=[10,13]) (by kernel_rfl) (by simp) ?_;refine AllReadyIn.cons rfl (fun K hK=> ?_) ?_
        ·
         go_simp;refine hK _ _ ?_;clear hK K;try simp only[PL]
         refine wpAnyIn_ready (rs:=[13]) (by kernel_rfl) (by simp) ?_;refine AllReadyIn.cons rfl (fun K hK=> ?_) ?_
         ·
          go_simp;refine hK _ _ ?_;clear hK K;try simp only[PL]
          refine wpAnyIn_take (i:=14) (v:= ?anD) rfl rfl (by kernel_rfl) (by kernel_rfl) (by kernel_rfl) (fun _ _ _ h=>h) ⟨Or.inl ⟨by rfl, ?UM⟩,fun _=>rfl⟩ ?acF
          case UM=>intro w;first|(go_simp;done)|(go_simp;with_reducible rfl)
          try simp only[PL]
          refine wpAnyIn_take (i:=16) (v:= ?anE) rfl rfl (by kernel_rfl) (by kernel_rfl) (by kernel_rfl) (fun _ _ _ h=>h) ⟨Or.inl ⟨by rfl, ?UN⟩,fun _=>rfl⟩ ?acG
          case UN=>intro w;first|(go_simp;done)|(go_simp;with_reducible rfl)
          try simp only[PL]
          refine wpAnyIn_take (i:=20) (v:= ?anF) rfl rfl (by kernel_rfl) (by kernel_rfl) (by kernel_rfl) (fun _ _ _ h=>h) ⟨Or.inl ⟨by rfl, ?UO⟩,fun _=>rfl⟩ ?acH
          case UO=>intro w;first|(go_simp;done)|(go_simp;with_reducible rfl)
          try simp only[PL]
          refine wpAnyIn_take (i:=21) (v:= ?anG) rfl rfl (by kernel_rfl) (by kernel_rfl) (by kernel_rfl) (fun _ _ _ h=>h) ⟨Or.inl ⟨by rfl, ?UQ⟩,fun _=>rfl⟩ ?acI
          case UQ=>intro w;first|(go_simp;done)|(go_simp;with_reducible rfl)
          try simp only[PL]
          refine wpAnyIn_done (by kernel_rfl) ?_ _
          by_cases uG:k<M
          ·
           have vB:=zT k uG
           have Ph:¬(F+(n:Int)-1<E+Y+(k:Int)):=by omega
           gi_wp2
           go_roundw
           case rel=>exact⟨k+1,_,by omega,by(try simp only[Pj])<;>norm_cast,hys.snoc rfl,nG,fO,eF⟩
           case measure=>simp[intOf]<;>omega
          ·
           obtain rfl:k=M:=by omega
           gi_wp2
           refine bodyPost_ret (results_none rfl _ _ _) rfl ?_;exact⟨⟨_,rfl⟩,.inl ⟨_,hys.snoc rfl,nG⟩⟩
         exact AllReadyIn.nil
        refine AllReadyIn.cons rfl (fun K hK=> ?_) ?_
        ·
         go_simp;refine hK _ _ ?_;clear hK K;try simp only[PL]
         refine wpAnyIn_ready (rs:=[10]) (by kernel_rfl) (by simp) ?_;refine AllReadyIn.cons rfl (fun K hK=> ?_) ?_
         ·
          go_simp;refine hK _ _ ?_;clear hK K;try simp only[PL]
          refine wpAnyIn_take (i:=14) (v:= ?anH) rfl rfl (by kernel_rfl) (by kernel_rfl) (by kernel_rfl) (fun _ _ _ h=>h) ⟨Or.inl ⟨by rfl, ?UR⟩,fun _=>rfl⟩ ?acJ
          case UR=>intro w;first|(go_simp;done)|(go_simp;with_reducible rfl)
          try simp only[PL]
          refine wpAnyIn_take (i:=16) (v:= ?anI) rfl rfl (by kernel_rfl) (by kernel_rfl) (by kernel_rfl) (fun _ _ _ h=>h) ⟨Or.inl ⟨by rfl, ?US⟩,fun _=>rfl⟩ ?acK
          case US=>intro w;first|(go_simp;done)|(go_simp;with_reducible rfl)
          try simp only[PL]
          refine wpAnyIn_take (i:=20) (v:= ?anJ) rfl rfl (by kernel_rfl) (by kernel_rfl) (by kernel_rfl) (fun _ _ _ h=>h) ⟨Or.inl ⟨by rfl, ?UT⟩,fun _=>rfl⟩ ?acL
          case UT=>intro w;first|(go_simp;done)|(go_simp;with_reducible rfl)
          try simp only[PL]
          refine wpAnyIn_take (i:=21) (v:= ?anK) rfl rfl (by kernel_rfl) (by kernel_rfl) (by kernel_rfl) (fun _ _ _ h=>h) ⟨Or.inl ⟨by rfl, ?UU⟩,fun _=>rfl⟩ ?acM
          case UU=>intro w;first|(go_simp;done)|(go_simp;with_reducible rfl)
          try simp only[PL]
          refine wpAnyIn_done (by kernel_rfl) ?_ _
          by_cases uG:k<M
          ·
           have vB:=zT k uG
           have Ph:¬(F+(n:Int)-1<E+Y+(k:Int)):=by omega
           gi_wp2
           go_roundw
           case rel=>exact⟨k+1,_,by omega,by(try simp only[Pj])<;>norm_cast,hys.snoc rfl,nG,fO,eF⟩
           case measure=>simp[intOf]<;>omega
          ·
           obtain rfl:k=M:=by omega
           gi_wp2
           refine bodyPost_ret (results_none rfl _ _ _) rfl ?_;exact⟨⟨_,rfl⟩,.inl ⟨_,hys.snoc rfl,nG⟩⟩
         exact AllReadyIn.nil
        exact AllReadyIn.nil
       exact AllReadyIn.nil
      exact AllReadyIn.nil
     ·
      gi_wp2_with fail
      refine wpAnyIn_take (i:=6) (v:= ?ao9) rfl rfl (by kernel_rfl) (by kernel_rfl) (by kernel_rfl) (fun _ _ _ h=>h) ⟨Or.inl ⟨by rfl, ?aa0⟩,fun _=>rfl⟩ ?agA
      case aa0=>intro w;first|(go_simp;done)|(go_simp;with_reducible rfl)
      try simp only[PL]
      refine wpAnyIn_take (i:=7) (v:= ?apa) rfl rfl (by kernel_rfl) (by kernel_rfl) (by kernel_rfl) (fun _ _ _ h=>h) ⟨Or.inl ⟨by rfl, ?aa1⟩,fun _=>rfl⟩ ?agB
      case aa1=>intro w;first|(go_simp;done)|(go_simp;with_reducible rfl)
      try simp only[PL]
      refine wpAnyIn_take (i:=8) (v:=undef) rfl rfl (by kernel_rfl) (by kernel_rfl) (by kernel_rfl) (fun _ _ _ h=>h) ⟨Or.inr ⟨by rfl,rfl⟩,fun _=>rfl⟩ ?_;try simp only[PL]
      refine wpAnyIn_take (i:=9) (v:=undef) rfl rfl (by kernel_rfl) (by kernel_rfl) (by kernel_rfl) (fun _ _ _ h=>h) ⟨Or.inr ⟨by rfl,rfl⟩,fun _=>rfl⟩ ?_;try simp only[PL]
      refine wpAnyIn_take (i:=10) (v:=undef) rfl rfl (by kernel_rfl) (by kernel_rfl) (by kernel_rfl) (fun _ _ _ h=>h) ⟨Or.inr ⟨by rfl,rfl⟩,fun _=>rfl⟩ ?_;try simp only[PL]
      refine wpAnyIn_take (i:=11) (v:=undef) rfl rfl (by kernel_rfl) (by kernel_rfl) (by kernel_rfl) (fun _ _ _ h=>h) ⟨Or.inr ⟨by rfl,rfl⟩,fun _=>rfl⟩ ?_;try simp only[PL]
      refine wpAnyIn_take (i:=12) (v:=undef) rfl rfl (by kernel_rfl) (by kernel_rfl) (by kernel_rfl) (fun _ _ _ h=>h) ⟨Or.inr ⟨by rfl,rfl⟩,fun _=>rfl⟩ ?_;try simp only[PL]
      refine wpAnyIn_take (i:=13) (v:=undef) rfl rfl (by kernel_rfl) (by kernel_rfl) (by kernel_rfl) (fun _ _ _ h=>h) ⟨Or.inr ⟨by rfl,rfl⟩,fun _=>rfl⟩ ?_;try simp only[PL]
      refine wpAnyIn_take (i:=14) (v:=undef) rfl rfl (by kernel_rfl) (by kernel_rfl) (by kernel_rfl) (fun _ _ _ h=>h) ⟨Or.inr ⟨by rfl,rfl⟩,fun _=>rfl⟩ ?_;try simp only[PL]
      refine wpAnyIn_take (i:=15) (v:=undef) rfl rfl (by kernel_rfl) (by kernel_rfl) (by kernel_rfl) (fun _ _ _ h=>h) ⟨Or.inr ⟨by rfl,rfl⟩,fun _=>rfl⟩ ?_;try simp only[PL]
      refine wpAnyIn_take (i:=16) (v:=undef) rfl rfl (by kernel_rfl) (by kernel_rfl) (by kernel_rfl) (fun _ _ _ h=>h) ⟨Or.inr ⟨by rfl,rfl⟩,fun _=>rfl⟩ ?_;try simp only[PL]
      refine wpAnyIn_take (i:=17) (v:=undef) rfl rfl (by kernel_rfl) (by kernel_rfl) (by kernel_rfl) (fun _ _ _ h=>h) ⟨Or.inr ⟨by rfl,rfl⟩,fun _=>rfl⟩ ?_;try simp only[PL]
      refine wpAnyIn_take (i:=18) (v:=undef) rfl rfl (by kernel_rfl) (by kernel_rfl) (by kernel_rfl) (fun _ _ _ h=>h) ⟨Or.inr ⟨by rfl,rfl⟩,fun _=>rfl⟩ ?_;try simp only[PL]
      refine wpAnyIn_ready (rs:=[19]) (by kernel_rfl) (by simp) ?_;refine AllReadyIn.cons rfl (fun K hK=> ?_) ?_
      ·
       go_simp;refine⟨trivial,hK _ _ ?_⟩;clear hK K;try simp only[PL]
       refine wpAnyIn_take (i:=20) (v:=undef) rfl rfl (by kernel_rfl) (by kernel_rfl) (by kernel_rfl) (fun _ _ _ h=>h) ⟨Or.inr ⟨by rfl,rfl⟩,fun _=>rfl⟩ ?_;try simp only[PL]
       refine wpAnyIn_take (i:=21) (v:= ?anL) rfl rfl (by kernel_rfl) (by kernel_rfl) (by kernel_rfl) (fun _ _ _ h=>h) ⟨Or.inl ⟨by rfl, ?UW⟩,fun _=>rfl⟩ ?acN
       case UW=>intro w;first|(go_simp;done)|(go_simp;with_reducible rfl)
       try simp only[PL]
       refine wpAnyIn_done (by kernel_rfl) ?_ _
       gi_wp2
       refine bodyPost_ret (results_none rfl _ _ _) rfl ?_;exact⟨⟨_,rfl⟩,.inr ⟨_,⟨k+1,by omega,hys.snoc rfl⟩,aaX⟩⟩
      exact AllReadyIn.nil
    exact AllReadyIn.nil
   exact AllReadyIn.nil
  exact AllReadyIn.nil

theorem Pk (m:Nat)(F S E Y:Int)(A:Option Addr)(n c:Nat)(w:World):
  CallsIn Fence.wide m Tryz.prog 178 #[.agg #[.int .i64 F,.int .i64 S,.slice A n c,.int .i64 E,.int .i64 Y]] w fun e w'=>
   e= .returned (.func (.func 186) #[] #[.pointer (some ⟨w.heap.size,0,none⟩)])/\w'=w.alloc (.cells #[.int .i64 F,.int .i64 S,.slice A n c,.int .i64 E,.int .i64 Y] 106):=by
 have hro:Fence.wide.round=none:=rfl;refine callsIn_of_wp Tryz.func178 rfl trivial ?_ hro;simp only[Tryz.ntmps178,List.size_toArray,List.length_cons,List.length_nil,Nat.reduceAdd,Nat.reduceSub,Array.replicate_succ,Array.replicate_zero,List.push_toArray,List.append_toArray,List.nil_append,List.cons_append]
 gi_wp2
 go_ret
 exact⟨rfl,rfl⟩

theorem qN {β:Type}{B:Nat}{J:β->World->Prop}(h:AbidesFrom B J){s:β}{W W':World}(hs:J s W)(hb:Below W.heap.size W W'):J s W':=
 h s W W' none hs ⟨hb.os,hb.tape,hb.output,hb.size,fun k hk _=>hb.block k hk⟩ (fun _ e=>by cases e)

theorem JP (m:Nat)(hm:2<=m)(Bs n₀:Nat){F S E Y:Int}{A:Option Addr}{n c:Nat}{r:Nat->RH}{w:World}(hn₀:w.heap.size<=n₀)(hT:dA w A n r)(hR:cB F S n r E Y)(M:Nat)(hM:M<=1000)(zT:∀k:Nat,k<M->E+Y+(k:Int)<=F+(n:Int)-1)(hMb:F+(n:Int)-1<E+Y+(M:Int))
  (w0:World) (hb0:Below w.heap.size w w0) (Fp:ak 106 Bs #[.int .i64 F,.int .i64 S,.slice A n c,.int .i64 E,.int .i64 Y] w0):
  agi Fence.wide m Tryz.prog 186 #[.pointer (some ⟨Bs,0,none⟩)] Yr.vals (sL n₀ Bs) (Yr.fit (fun k=>rt F S n r E Y (k:Int)))
   (fun ys=>Ia ys (M+1)) (fun pre=>∃j,j<=M+1/\Ia pre j) (M+1) w0:=fun l J Jx W hW hJ _ hY h0=>
 JN m hm l Bs n₀ hn₀ hT hR M hM zT hMb J Jx (fun _ _ _ hs hb=>qN hJ hs hb) hY W (Fp.below hW Fp.lt) (hb0.trans (hW.mono hb0.size)) h0
end Go.Proofs.YtclbiihcbfnjmaaGreat
