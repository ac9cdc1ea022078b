/-
  Parts.
-/
import Derived.Test.YtclbiihcbfnjmaaGreatK2
import Derived.RangeFuncCalls
import Derived.RangeFuncLeaves
import Derived.RangeFuncBox
import Derived.Shelf.Abstract
import Derived.Shelf.RegionOpen
import Derived.OwnWalkIn
import Derived.TacticsInMore
import Derived.LoopNIn
import Derived.LoopIn
import Derived.Test.YtclbiihcbfnjmaaGreatK5
import Derived.Test.YtclbiihcbfnjmaaGreatK14
set_option linter.unusedSimpArgs false
set_option maxRecDepth 100000
set_option maxHeartbeats 4000000
namespace Go.Proofs.YtclbiihcbfnjmaaGreat
open Go.RowKit Go.Shelf
attribute [local go_sem] Oper.semAt_some

structure Yr where
 k:Nat
 s:Bool
 A:Option Addr
 n:Nat
 c:Nat
 t:Bool
 B:Option Addr
 m:Nat
 d:Nat
def Yr.vals (x:Yr):Array Value:=#[.int .i64 (x.k:Int),.agg (qf4 x.s x.A x.n x.c x.t x.B x.m x.d)]
def Yr.fit (q:Nat->Rat)(pre:List Yr)(x:Yr)(W:World):Prop:=x.k=pre.length/\FV W (q x.k) x.s x.A x.n x.t x.B x.m
def Yrs (l:List Yr)(j:Nat):Prop:=l.map Yr.k=List.range j
theorem Yrs.nil :Yrs [] 0:=rfl
theorem Yrs.snoc {l:List Yr}{j:Nat}{x:Yr}(h:Yrs l j)(hx:x.k=j):Yrs (l++ [x]) (j+1):=by
 unfold Yrs at*
 rw[List.map_append,h,List.range_succ,<-hx];rfl
theorem Yrs.length {l:List Yr}{j:Nat}(h:Yrs l j):l.length=j:=by
 have:=congrArg List.length h
 simpa using this
theorem KpB.blk {n₀ Bs:Nat}{t:TypeId}{cs:Array Value}{W W':World}(h:KpB n₀ Bs W W')(hb:Blk t Bs cs W):Blk t Bs cs W':=h.2.trans hb

theorem below_drewZ (B:Nat)(w:World):Below B w w.drew:=⟨rfl,rfl,rfl,Nat.le_refl _,fun _ _=>rfl⟩
theorem years1_in (m:Nat)(hm:2<=m)(l Bs n₀:Nat){F S E Y:Int}{A:Option Addr}{n c:Nat}{r:Nat->RH}{w:World}(hn₀:w.heap.size<=n₀)(hT:TabM w A n r)(hR:RightP F S n r E Y)(M:Nat)(hM:M<=1000)(hMa:∀k:Nat,k<M->E+Y+(k:Int)<=F+(n:Int)-1)(hMb:F+(n:Int)-1<E+Y+(M:Int))
  (J Jx:List Yr->World->Prop)
  (hJ:∀pre (W W':World),J pre W->Below W.heap.size W W'->J pre W')
  (hY:∀pre x W,J pre W->Yr.fit (fun k=>rt F S n r E Y (k:Int)) pre x W->pre.length<M+1->YieldAt Fence.wide (m-1) Tryz.prog l x.vals W fun e W'=>
   (e= .returned (.bool true)/\J (pre++ [x]) W'/\KpB n₀ Bs W W')\/(e= .returned (.bool false)/\Jx (pre++ [x]) W'))
  (W:World) (hBs:Blk 106 Bs #[.int .i64 F,.int .i64 S,.slice A n c,.int .i64 E,.int .i64 Y] W) (hW:Below w.heap.size w W) (h0:J [] W):
  CallsIn Fence.wide m Tryz.prog 186 #[.func (.yield l) #[] #[],.pointer (some ⟨Bs,0,none⟩)] W fun e W'=>(∃v,e= .returned v)/\
   ((∃ys,Yrs ys (M+1)/\J ys W')\/(∃pre,(∃j,j<=M+1/\Yrs pre j)/\Jx pre W')):=by
 have hro:Fence.wide.round=none:=rfl;refine callsIn_of_wp Tryz.func186 rfl trivial ?_ hro;simp only[Tryz.ntmps186,List.size_toArray,List.length_cons,List.length_nil,Nat.reduceAdd,Nat.reduceSub,Array.replicate_succ,Array.replicate_zero,List.push_toArray,List.append_toArray,List.nil_append,List.cons_append]
 gi_wp2
 gi_loopw [3] (fun i wr=>∃(k:Nat) (pre:List Yr),k<=M/\i= .int .i64 (k:Int)/\Yrs pre k/\J pre wr/\Blk 106 Bs #[.int .i64 F,.int .i64 S,.slice A n c,.int .i64 E,.int .i64 Y] wr/\Below w.heap.size w wr)
  (fun i _=>(M+1-(intOf i).toNat))
 case atStart=>exact⟨0,[],Nat.zero_le _,rfl,Yrs.nil,h0,hBs,hW⟩
 case round=>
  obtain⟨k,pre,hk,rfl,hys,hJs,hblk,hbel⟩:=hrel;obtain⟨k0,k1,k2,k3,k4⟩:=hblk.c5;obtain⟨ht,r1,r2,r3,r4⟩:=id hR;obtain⟨f1,f2,s1,s2,n1,n2⟩:0<=F/\F<=150/\0<=S/\S<=5/\1<=n/\n<=111:=⟨ht.1.1.1,ht.1.1.2,ht.1.2.1,ht.1.2.2,ht.2.1.1,ht.2.1.2⟩
  have o1:IntKind.i64.wrap (E+Y)=E+Y:=by rw[IntKind.wrap_i64];omega
  have o2:IntKind.i64.wrap (E+Y+(k:Int))=E+Y+(k:Int):=by rw[IntKind.wrap_i64];omega
  have o3:IntKind.i64.wrap ((k:Int)+1)=(k:Int)+1:=by rw[IntKind.wrap_i64];omega
  have hmx: Tryz.prog.follows .mixedOrders=true:=by kernel_rfl
  gi_wp2
  refine wpIn_region_any (by assumption) ?_
  try(change wpAnyIn _ _ _ _ _ _ _ _ _ (World.drew _))
  refine wpAnyIn_take (i:=0) (v:= ?v0_1) rfl rfl (by kernel_rfl) (by kernel_rfl) (by kernel_rfl) (fun _ _ _ h=>h) ⟨Or.inl ⟨by rfl, ?hy0_1⟩,fun _=>rfl⟩ ?rest0_1
  case hy0_1=>intro w;first|(go_simp;done)|(go_simp;with_reducible rfl)
  try simp only[PL]
  refine wpAnyIn_take (i:=1) (v:= ?v1_2) rfl rfl (by kernel_rfl) (by kernel_rfl) (by kernel_rfl) (fun _ _ _ h=>h) ⟨Or.inl ⟨by rfl, ?hy1_2⟩,fun _=>rfl⟩ ?rest1_2
  case hy1_2=>intro w;first|(go_simp;done)|(go_simp;with_reducible rfl)
  try simp only[PL]
  refine wpAnyIn_take (i:=3) (v:= ?v3_3) rfl rfl (by kernel_rfl) (by kernel_rfl) (by kernel_rfl) (fun _ _ _ h=>h) ⟨Or.inl ⟨by rfl, ?hy3_3⟩,fun _=>rfl⟩ ?rest3_3
  case hy3_3=>intro w;first|(go_simp;done)|(go_simp;with_reducible rfl)
  try simp only[PL]
  refine wpAnyIn_ready (rs:=[2]) (by kernel_rfl) (by simp) ?_;refine AllReadyIn.cons rfl (fun K hK=> ?_) ?_
  ·
   go_simp;refine hK _ _ ?_;clear hK K;try simp only[PL]
   refine wpAnyIn_ready (rs:=[4]) (by kernel_rfl) (by simp) ?_;refine AllReadyIn.cons rfl (fun K hK=> ?_) ?_
   ·
    go_simp;refine⟨trivial,fun _=>by omega,(callsIn_wide.2 (lrate_v (k:=(k:Int)) (hT.below (hbel.trans (below_drewZ _ _))) hR (by omega) (by omega))).mono ?_⟩
    rintro e w1 ⟨s1,A1,n1,c1,t1,B1,m1,d1,rfl,hF1,hb1⟩
    have hb2:Blk 106 Bs #[.int .i64 F,.int .i64 S,.slice A n c,.int .i64 E,.int .i64 Y] w1:=(hb1.block Bs hblk.lt).trans hblk;have hbel2:Below w.heap.size w w1:=(hbel.trans (below_drewZ _ _)).trans (hb1.mono (hbel.trans (below_drewZ _ _)).size);have hJ1:=hJ _ _ _ (hJ _ _ _ hJs (below_drewZ _ _)) hb1;obtain⟨fn,tmps,assign,body,hy,hR5⟩:=hY _ ⟨k,s1,A1,n1,c1,t1,B1,m1,d1⟩ w1 hJ1 ⟨hys.length.symm,hF1⟩ (by rw[hys.length];omega)
    gi_wp2_with fail
    refine wpAnyIn_ready (rs:=[5]) (by kernel_rfl) (by simp) ?_;refine AllReadyIn.cons rfl (fun K hK=> ?_) ?_
    ·
     dsimp only[Yr.vals] at hy
     go_simp;refine⟨fun _=>by omega,hR5.mono ?_⟩
     rintro e W3 (⟨rfl,hJ3,hk3⟩|⟨rfl,hJx3⟩)
     ·
      have hb3:=hk3.blk hb2;obtain⟨k0,k1,k2,k3,k4⟩:=hb3.c5;have hbel3:Below w.heap.size w W3:=(hbel2.trans (hk3.1.mono hn₀))
      gi_wp2_with fail
      refine wpAnyIn_take (i:=6) (v:= ?v6_4) rfl rfl (by kernel_rfl) (by kernel_rfl) (by kernel_rfl) (fun _ _ _ h=>h) ⟨Or.inl ⟨by rfl, ?hy6_4⟩,fun _=>rfl⟩ ?rest6_4
      case hy6_4=>intro w;first|(go_simp;done)|(go_simp;with_reducible rfl)
      try simp only[PL]
      refine wpAnyIn_take (i:=7) (v:= ?v7_5) rfl rfl (by kernel_rfl) (by kernel_rfl) (by kernel_rfl) (fun _ _ _ h=>h) ⟨Or.inl ⟨by rfl, ?hy7_5⟩,fun _=>rfl⟩ ?rest7_5
      case hy7_5=>intro w;first|(go_simp;done)|(go_simp;with_reducible rfl)
      try simp only[PL]
      refine wpAnyIn_take (i:=8) (v:= ?v8_6) rfl rfl (by kernel_rfl) (by kernel_rfl) (by kernel_rfl) (fun _ _ _ h=>h) ⟨Or.inl ⟨by rfl, ?hy8_6⟩,fun _=>rfl⟩ ?rest8_6
      case hy8_6=>intro w;first|(go_simp;done)|(go_simp;with_reducible rfl)
      try simp only[PL]
      refine wpAnyIn_take (i:=9) (v:= ?v9_7) rfl rfl (by kernel_rfl) (by kernel_rfl) (by kernel_rfl) (fun _ _ _ h=>h) ⟨Or.inl ⟨by rfl, ?hy9_7⟩,fun _=>rfl⟩ ?rest9_7
      case hy9_7=>intro w;first|(go_simp;done)|(go_simp;with_reducible rfl)
      try simp only[PL]
      refine wpAnyIn_take (i:=11) (v:= ?v11_8) rfl rfl (by kernel_rfl) (by kernel_rfl) (by kernel_rfl) (fun _ _ _ h=>h) ⟨Or.inl ⟨by rfl, ?hy11_8⟩,fun _=>rfl⟩ ?rest11_8
      case hy11_8=>intro w;first|(go_simp;done)|(go_simp;with_reducible rfl)
      try simp only[PL]
      refine wpAnyIn_take (i:=12) (v:= ?v12_9) rfl rfl (by kernel_rfl) (by kernel_rfl) (by kernel_rfl) (fun _ _ _ h=>h) ⟨Or.inl ⟨by rfl, ?hy12_9⟩,fun _=>rfl⟩ ?rest12_9
      case hy12_9=>intro w;first|(go_simp;done)|(go_simp;with_reducible rfl)
      try simp only[PL]
      refine wpAnyIn_take (i:=15) (v:= ?v15_10) rfl rfl (by kernel_rfl) (by kernel_rfl) (by kernel_rfl) (fun _ _ _ h=>h) ⟨Or.inl ⟨by rfl, ?hy15_10⟩,fun _=>rfl⟩ ?rest15_10
      case hy15_10=>intro w;first|(go_simp;done)|(go_simp;with_reducible rfl)
      try simp only[PL]
      refine wpAnyIn_take (i:=17) (v:= ?v17_11) rfl rfl (by kernel_rfl) (by kernel_rfl) (by kernel_rfl) (fun _ _ _ h=>h) ⟨Or.inl ⟨by rfl, ?hy17_11⟩,fun _=>rfl⟩ ?rest17_11
      case hy17_11=>intro w;first|(go_simp;done)|(go_simp;with_reducible rfl)
      try simp only[PL]
      refine wpAnyIn_ready (rs:=[10,13,18]) (by kernel_rfl) (by simp) ?_;refine AllReadyIn.cons rfl (fun K hK=> ?_) ?_
      ·
       go_simp;refine hK _ _ ?_;clear hK K;try simp only[PL]
       refine wpAnyIn_ready (rs:=[13,18]) (by kernel_rfl) (by simp) ?_;refine AllReadyIn.cons rfl (fun K hK=> ?_) ?_
       ·
        go_simp;refine hK _ _ ?_;clear hK K;try simp only[PL]
        refine wpAnyIn_take (i:=14) (v:= ?v14_12) rfl rfl (by kernel_rfl) (by kernel_rfl) (by kernel_rfl) (fun _ _ _ h=>h) ⟨Or.inl ⟨by rfl, ?hy14_12⟩,fun _=>rfl⟩ ?rest14_12
        case hy14_12=>intro w;first|(go_simp;done)|(go_simp;with_reducible rfl)
        try simp only[PL]
        refine wpAnyIn_take (i:=16) (v:= ?v16_13) rfl rfl (by kernel_rfl) (by kernel_rfl) (by kernel_rfl) (fun _ _ _ h=>h) ⟨Or.inl ⟨by rfl, ?hy16_13⟩,fun _=>rfl⟩ ?rest16_13
        case hy16_13=>intro w;first|(go_simp;done)|(go_simp;with_reducible rfl)
        try simp only[PL]
        refine wpAnyIn_ready (rs:=[18]) (by kernel_rfl) (by simp) ?_;refine AllReadyIn.cons rfl (fun K hK=> ?_) ?_
        ·
         go_simp;refine hK _ _ ?_;clear hK K;try simp only[PL]
         refine wpAnyIn_ready (rs:=[19]) (by kernel_rfl) (by simp) ?_;refine AllReadyIn.cons rfl (fun K hK=> ?_) ?_
         ·
          go_simp;refine⟨trivial,fun _=>by omega,(callsIn_wide.2 (llast_v F S A n c _ f1 (by omega) (by omega))).mono ?_⟩
          rintro e w4 ⟨rfl,hb4⟩
          have hb5:Blk 106 Bs #[.int .i64 F,.int .i64 S,.slice A n c,.int .i64 E,.int .i64 Y] w4:=(hb4.block Bs hb3.lt).trans hb3;obtain⟨k0,k1,k2,k3,k4⟩:=hb5.c5;have hJ4:=hJ _ _ _ hJ3 hb4;have hbel4:Below w.heap.size w w4:=hbel3.trans (hb4.mono hbel3.size)
          gi_wp2_with fail
          refine wpAnyIn_take (i:=20) (v:= ?v20_14) rfl rfl (by kernel_rfl) (by kernel_rfl) (by kernel_rfl) (fun _ _ _ h=>h) ⟨Or.inl ⟨by rfl, ?hy20_14⟩,fun _=>rfl⟩ ?rest20_14
          case hy20_14=>intro w;first|(go_simp;done)|(go_simp;with_reducible rfl)
          try simp only[PL]
          refine wpAnyIn_take (i:=21) (v:= ?v21_15) rfl rfl (by kernel_rfl) (by kernel_rfl) (by kernel_rfl) (fun _ _ _ h=>h) ⟨Or.inl ⟨by rfl, ?hy21_15⟩,fun _=>rfl⟩ ?rest21_15
          case hy21_15=>intro w;first|(go_simp;done)|(go_simp;with_reducible rfl)
          try simp only[PL]
          refine wpAnyIn_done (by kernel_rfl) ?_ _
          by_cases hkM:k<M
          ·
           have hcc:=hMa k hkM
           have hng:¬(F+(n:Int)-1<E+Y+(k:Int)):=by omega
           gi_wp2
           go_roundw
           case rel=>exact⟨k+1,_,by omega,by(try simp only[ok1])<;>norm_cast,hys.snoc rfl,hJ4,hb5,hbel4⟩
           case measure=>simp[intOf]<;>omega
          ·
           obtain rfl:k=M:=by omega
           gi_wp2
           refine bodyPost_ret (results_none rfl _ _ _) rfl ?_;exact⟨⟨_,rfl⟩,.inl ⟨_,hys.snoc rfl,hJ4⟩⟩
         exact AllReadyIn.nil
        exact AllReadyIn.nil
       refine AllReadyIn.cons rfl (fun K hK=> ?_) ?_
       ·
        go_simp;refine hK _ _ ?_;clear hK K;try simp only[PL]
        refine wpAnyIn_ready (rs:=[13,19]) (by kernel_rfl) (by simp) ?_;refine AllReadyIn.cons rfl (fun K hK=> ?_) ?_
        ·
         go_simp;refine hK _ _ ?_;clear hK K;try simp only[PL]
         refine wpAnyIn_take (i:=14) (v:= ?v14_16) rfl rfl (by kernel_rfl) (by kernel_rfl) (by kernel_rfl) (fun _ _ _ h=>h) ⟨Or.inl ⟨by rfl, ?hy14_16⟩,fun _=>rfl⟩ ?rest14_16
         case hy14_16=>intro w;first|(go_simp;done)|(go_simp;with_reducible rfl)
         try simp only[PL]
         refine wpAnyIn_take (i:=16) (v:= ?v16_17) rfl rfl (by kernel_rfl) (by kernel_rfl) (by kernel_rfl) (fun _ _ _ h=>h) ⟨Or.inl ⟨by rfl, ?hy16_17⟩,fun _=>rfl⟩ ?rest16_17
         case hy16_17=>intro w;first|(go_simp;done)|(go_simp;with_reducible rfl)
         try simp only[PL]
         refine wpAnyIn_ready (rs:=[19]) (by kernel_rfl) (by simp) ?_;refine AllReadyIn.cons rfl (fun K hK=> ?_) ?_
         ·
          go_simp;refine⟨trivial,fun _=>by omega,(callsIn_wide.2 (llast_v F S A n c _ f1 (by omega) (by omega))).mono ?_⟩
          rintro e w4 ⟨rfl,hb4⟩
          have hb5:Blk 106 Bs #[.int .i64 F,.int .i64 S,.slice A n c,.int .i64 E,.int .i64 Y] w4:=(hb4.block Bs hb3.lt).trans hb3;obtain⟨k0,k1,k2,k3,k4⟩:=hb5.c5;have hJ4:=hJ _ _ _ hJ3 hb4;have hbel4:Below w.heap.size w w4:=hbel3.trans (hb4.mono hbel3.size)
          gi_wp2_with fail
          refine wpAnyIn_take (i:=20) (v:= ?v20_18) rfl rfl (by kernel_rfl) (by kernel_rfl) (by kernel_rfl) (fun _ _ _ h=>h) ⟨Or.inl ⟨by rfl, ?hy20_18⟩,fun _=>rfl⟩ ?rest20_18
          case hy20_18=>intro w;first|(go_simp;done)|(go_simp;with_reducible rfl)
          try simp only[PL]
          refine wpAnyIn_take (i:=21) (v:= ?v21_19) rfl rfl (by kernel_rfl) (by kernel_rfl) (by kernel_rfl) (fun _ _ _ h=>h) ⟨Or.inl ⟨by rfl, ?hy21_19⟩,fun _=>rfl⟩ ?rest21_19
          case hy21_19=>intro w;first|(go_simp;done)|(go_simp;with_reducible rfl)
          try simp only[PL]
          refine wpAnyIn_done (by kernel_rfl) ?_ _
          by_cases hkM:k<M
          ·
           have hcc:=hMa k hkM
           have hng:¬(F+(n:Int)-1<E+Y+(k:Int)):=by omega
           gi_wp2
           go_roundw
           case rel=>exact⟨k+1,_,by omega,by(try simp only[ok1])<;>norm_cast,hys.snoc rfl,hJ4,hb5,hbel4⟩
           case measure=>simp[intOf]<;>omega
          ·
           obtain rfl:k=M:=by omega
           gi_wp2
           refine bodyPost_ret (results_none rfl _ _ _) rfl ?_;exact⟨⟨_,rfl⟩,.inl ⟨_,hys.snoc rfl,hJ4⟩⟩
         exact AllReadyIn.nil
        refine AllReadyIn.cons rfl (fun K hK=> ?_) ?_
        ·
         go_simp;refine⟨trivial,fun _=>by omega,(callsIn_wide.2 (llast_v F S A n c _ f1 (by omega) (by omega))).mono ?_⟩
         rintro e w4 ⟨rfl,hb4⟩
         have hb5:Blk 106 Bs #[.int .i64 F,.int .i64 S,.slice A n c,.int .i64 E,.int .i64 Y] w4:=(hb4.block Bs hb3.lt).trans hb3;obtain⟨k0,k1,k2,k3,k4⟩:=hb5.c5;have hJ4:=hJ _ _ _ hJ3 hb4;have hbel4:Below w.heap.size w w4:=hbel3.trans (hb4.mono hbel3.size)
         gi_wp2_with fail
         refine wpAnyIn_ready (rs:=[13]) (by kernel_rfl) (by simp) ?_;refine AllReadyIn.cons rfl (fun K hK=> ?_) ?_
         ·
          go_simp;refine hK _ _ ?_;clear hK K;try simp only[PL]
          refine wpAnyIn_take (i:=14) (v:= ?v14_20) rfl rfl (by kernel_rfl) (by kernel_rfl) (by kernel_rfl) (fun _ _ _ h=>h) ⟨Or.inl ⟨by rfl, ?hy14_20⟩,fun _=>rfl⟩ ?rest14_20
          case hy14_20=>intro w;first|(go_simp;done)|(go_simp;with_reducible rfl)
          try simp only[PL]
          refine wpAnyIn_take (i:=16) (v:= ?v16_21) rfl rfl (by kernel_rfl) (by kernel_rfl) (by kernel_rfl) (fun _ _ _ h=>h) ⟨Or.inl ⟨by rfl, ?hy16_21⟩,fun _=>rfl⟩ ?rest16_21
          case hy16_21=>intro w;first|(go_simp;done)|(go_simp;with_reducible rfl)
          try simp only[PL]
          refine wpAnyIn_take (i:=20) (v:= ?v20_22) rfl rfl (by kernel_rfl) (by kernel_rfl) (by kernel_rfl) (fun _ _ _ h=>h) ⟨Or.inl ⟨by rfl, ?hy20_22⟩,fun _=>rfl⟩ ?rest20_22
          case hy20_22=>intro w;first|(go_simp;done)|(go_simp;with_reducible rfl)
          try simp only[PL]
          refine wpAnyIn_take (i:=21) (v:= ?v21_23) rfl rfl (by kernel_rfl) (by kernel_rfl) (by kernel_rfl) (fun _ _ _ h=>h) ⟨Or.inl ⟨by rfl, ?hy21_23⟩,fun _=>rfl⟩ ?rest21_23
          case hy21_23=>intro w;first|(go_simp;done)|(go_simp;with_reducible rfl)
          try simp only[PL]
          refine wpAnyIn_done (by kernel_rfl) ?_ _
          by_cases hkM:k<M
          ·
           have hcc:=hMa k hkM
           have hng:¬(F+(n:Int)-1<E+Y+(k:Int)):=by omega
           gi_wp2
           go_roundw
           case rel=>exact⟨k+1,_,by omega,by(try simp only[ok1])<;>norm_cast,hys.snoc rfl,hJ4,hb5,hbel4⟩
           case measure=>simp[intOf]<;>omega
          ·
           obtain rfl:k=M:=by omega
           gi_wp2
           refine bodyPost_ret (results_none rfl _ _ _) rfl ?_;exact⟨⟨_,rfl⟩,.inl ⟨_,hys.snoc rfl,hJ4⟩⟩
         exact AllReadyIn.nil
        exact AllReadyIn.nil
       exact AllReadyIn.nil
      refine AllReadyIn.cons rfl (fun K hK=> ?_) ?_
      ·
       go_simp;refine hK _ _ ?_;clear hK K;try simp only[PL]
       refine wpAnyIn_ready (rs:=[10,18]) (by kernel_rfl) (by simp) ?_;refine AllReadyIn.cons rfl (fun K hK=> ?_) ?_
       ·
        go_simp;refine hK _ _ ?_;clear hK K;try simp only[PL]
        refine wpAnyIn_take (i:=14) (v:= ?v14_24) rfl rfl (by kernel_rfl) (by kernel_rfl) (by kernel_rfl) (fun _ _ _ h=>h) ⟨Or.inl ⟨by rfl, ?hy14_24⟩,fun _=>rfl⟩ ?rest14_24
        case hy14_24=>intro w;first|(go_simp;done)|(go_simp;with_reducible rfl)
        try simp only[PL]
        refine wpAnyIn_take (i:=16) (v:= ?v16_25) rfl rfl (by kernel_rfl) (by kernel_rfl) (by kernel_rfl) (fun _ _ _ h=>h) ⟨Or.inl ⟨by rfl, ?hy16_25⟩,fun _=>rfl⟩ ?rest16_25
        case hy16_25=>intro w;first|(go_simp;done)|(go_simp;with_reducible rfl)
        try simp only[PL]
        refine wpAnyIn_ready (rs:=[18]) (by kernel_rfl) (by simp) ?_;refine AllReadyIn.cons rfl (fun K hK=> ?_) ?_
        ·
         go_simp;refine hK _ _ ?_;clear hK K;try simp only[PL]
         refine wpAnyIn_ready (rs:=[19]) (by kernel_rfl) (by simp) ?_;refine AllReadyIn.cons rfl (fun K hK=> ?_) ?_
         ·
          go_simp;refine⟨trivial,fun _=>by omega,(callsIn_wide.2 (llast_v F S A n c _ f1 (by omega) (by omega))).mono ?_⟩
          rintro e w4 ⟨rfl,hb4⟩
          have hb5:Blk 106 Bs #[.int .i64 F,.int .i64 S,.slice A n c,.int .i64 E,.int .i64 Y] w4:=(hb4.block Bs hb3.lt).trans hb3;obtain⟨k0,k1,k2,k3,k4⟩:=hb5.c5;have hJ4:=hJ _ _ _ hJ3 hb4;have hbel4:Below w.heap.size w w4:=hbel3.trans (hb4.mono hbel3.size)
          gi_wp2_with fail
          refine wpAnyIn_take (i:=20) (v:= ?v20_26) rfl rfl (by kernel_rfl) (by kernel_rfl) (by kernel_rfl) (fun _ _ _ h=>h) ⟨Or.inl ⟨by rfl, ?hy20_26⟩,fun _=>rfl⟩ ?rest20_26
          case hy20_26=>intro w;first|(go_simp;done)|(go_simp;with_reducible rfl)
          try simp only[PL]
          refine wpAnyIn_take (i:=21) (v:= ?v21_27) rfl rfl (by kernel_rfl) (by kernel_rfl) (by kernel_rfl) (fun _ _ _ h=>h) ⟨Or.inl ⟨by rfl, ?hy21_27⟩,fun _=>rfl⟩ ?rest21_27
          case hy21_27=>intro w;first|(go_simp;done)|(go_simp;with_reducible rfl)
          try simp only[PL]
          refine wpAnyIn_done (by kernel_rfl) ?_ _
          by_cases hkM:k<M
          ·
           have hcc:=hMa k hkM
           have hng:¬(F+(n:Int)-1<E+Y+(k:Int)):=by omega
           gi_wp2
           go_roundw
           case rel=>exact⟨k+1,_,by omega,by(try simp only[ok1])<;>norm_cast,hys.snoc rfl,hJ4,hb5,hbel4⟩
           case measure=>simp[intOf]<;>omega
          ·
           obtain rfl:k=M:=by omega
           gi_wp2
           refine bodyPost_ret (results_none rfl _ _ _) rfl ?_;exact⟨⟨_,rfl⟩,.inl ⟨_,hys.snoc rfl,hJ4⟩⟩
         exact AllReadyIn.nil
        exact AllReadyIn.nil
       refine AllReadyIn.cons rfl (fun K hK=> ?_) ?_
       ·
        go_simp;refine hK _ _ ?_;clear hK K;try simp only[PL]
        refine wpAnyIn_ready (rs:=[10,19]) (by kernel_rfl) (by simp) ?_;refine AllReadyIn.cons rfl (fun K hK=> ?_) ?_
        ·
         go_simp;refine hK _ _ ?_;clear hK K;try simp only[PL]
         refine wpAnyIn_take (i:=14) (v:= ?v14_28) rfl rfl (by kernel_rfl) (by kernel_rfl) (by kernel_rfl) (fun _ _ _ h=>h) ⟨Or.inl ⟨by rfl, ?hy14_28⟩,fun _=>rfl⟩ ?rest14_28
         case hy14_28=>intro w;first|(go_simp;done)|(go_simp;with_reducible rfl)
         try simp only[PL]
         refine wpAnyIn_take (i:=16) (v:= ?v16_29) rfl rfl (by kernel_rfl) (by kernel_rfl) (by kernel_rfl) (fun _ _ _ h=>h) ⟨Or.inl ⟨by rfl, ?hy16_29⟩,fun _=>rfl⟩ ?rest16_29
         case hy16_29=>intro w;first|(go_simp;done)|(go_simp;with_reducible rfl)
         try simp only[PL]
         refine wpAnyIn_ready (rs:=[19]) (by kernel_rfl) (by simp) ?_;refine AllReadyIn.cons rfl (fun K hK=> ?_) ?_
         ·
          go_simp;refine⟨trivial,fun _=>by omega,(callsIn_wide.2 (llast_v F S A n c _ f1 (by omega) (by omega))).mono ?_⟩
          rintro e w4 ⟨rfl,hb4⟩
          have hb5:Blk 106 Bs #[.int .i64 F,.int .i64 S,.slice A n c,.int .i64 E,.int .i64 Y] w4:=(hb4.block Bs hb3.lt).trans hb3;obtain⟨k0,k1,k2,k3,k4⟩:=hb5.c5;have hJ4:=hJ _ _ _ hJ3 hb4;have hbel4:Below w.heap.size w w4:=hbel3.trans (hb4.mono hbel3.size)
          gi_wp2_with fail
          refine wpAnyIn_take (i:=20) (v:= ?v20_30) rfl rfl (by kernel_rfl) (by kernel_rfl) (by kernel_rfl) (fun _ _ _ h=>h) ⟨Or.inl ⟨by rfl, ?hy20_30⟩,fun _=>rfl⟩ ?rest20_30
          case hy20_30=>intro w;first|(go_simp;done)|(go_simp;with_reducible rfl)
          try simp only[PL]
          refine wpAnyIn_take (i:=21) (v:= ?v21_31) rfl rfl (by kernel_rfl) (by kernel_rfl) (by kernel_rfl) (fun _ _ _ h=>h) ⟨Or.inl ⟨by rfl, ?hy21_31⟩,fun _=>rfl⟩ ?rest21_31
          case hy21_31=>intro w;first|(go_simp;done)|(go_simp;with_reducible rfl)
          try simp only[PL]
          refine wpAnyIn_done (by kernel_rfl) ?_ _
          by_cases hkM:k<M
          ·
           have hcc:=hMa k hkM
           have hng:¬(F+(n:Int)-1<E+Y+(k:Int)):=by omega
           gi_wp2
           go_roundw
           case rel=>exact⟨k+1,_,by omega,by(try simp only[ok1])<;>norm_cast,hys.snoc rfl,hJ4,hb5,hbel4⟩
           case measure=>simp[intOf]<;>omega
          ·
           obtain rfl:k=M:=by omega
           gi_wp2
           refine bodyPost_ret (results_none rfl _ _ _) rfl ?_;exact⟨⟨_,rfl⟩,.inl ⟨_,hys.snoc rfl,hJ4⟩⟩
         exact AllReadyIn.nil
        refine AllReadyIn.cons rfl (fun K hK=> ?_) ?_
        ·
         go_simp;refine⟨trivial,fun _=>by omega,(callsIn_wide.2 (llast_v F S A n c _ f1 (by omega) (by omega))).mono ?_⟩
         rintro e w4 ⟨rfl,hb4⟩
         have hb5:Blk 106 Bs #[.int .i64 F,.int .i64 S,.slice A n c,.int .i64 E,.int .i64 Y] w4:=(hb4.block Bs hb3.lt).trans hb3;obtain⟨k0,k1,k2,k3,k4⟩:=hb5.c5;have hJ4:=hJ _ _ _ hJ3 hb4;have hbel4:Below w.heap.size w w4:=hbel3.trans (hb4.mono hbel3.size)
         gi_wp2_with fail
         refine wpAnyIn_ready (rs:=[10]) (by kernel_rfl) (by simp) ?_;refine AllReadyIn.cons rfl (fun K hK=> ?_) ?_
         ·
          go_simp;refine hK _ _ ?_;clear hK K;try simp only[PL]
          refine wpAnyIn_take (i:=14) (v:= ?v14_32) rfl rfl (by kernel_rfl) (by kernel_rfl) (by kernel_rfl) (fun _ _ _ h=>h) ⟨Or.inl ⟨by rfl, ?hy14_32⟩,fun _=>rfl⟩ ?rest14_32
          case hy14_32=>intro w;first|(go_simp;done)|(go_simp;with_reducible rfl)
          try simp only[PL]
          refine wpAnyIn_take (i:=16) (v:= ?v16_33) rfl rfl (by kernel_rfl) (by kernel_rfl) (by kernel_rfl) (fun _ _ _ h=>h) ⟨Or.inl ⟨by rfl, ?hy16_33⟩,fun _=>rfl⟩ ?rest16_33
          case hy16_33=>intro w;first|(go_simp;done)|(go_simp;with_reducible rfl)
          try simp only[PL]
          refine wpAnyIn_take (i:=20) (v:= ?v20_34) rfl rfl (by kernel_rfl) (by kernel_rfl) (by kernel_rfl) (fun _ _ _ h=>h) ⟨Or.inl ⟨by rfl, ?hy20_34⟩,fun _=>rfl⟩ ?rest20_34
          case hy20_34=>intro w;first|(go_simp;done)|(go_simp;with_reducible rfl)
          try simp only[PL]
          refine wpAnyIn_take (i:=21) (v:= ?v21_35) rfl rfl (by kernel_rfl) (by kernel_rfl) (by kernel_rfl) (fun _ _ _ h=>h) ⟨Or.inl ⟨by rfl, ?hy21_35⟩,fun _=>rfl⟩ ?rest21_35
          case hy21_35=>intro w;first|(go_simp;done)|(go_simp;with_reducible rfl)
          try simp only[PL]
          refine wpAnyIn_done (by kernel_rfl) ?_ _
          by_cases hkM:k<M
          ·
           have hcc:=hMa k hkM
           have hng:¬(F+(n:Int)-1<E+Y+(k:Int)):=by omega
           gi_wp2
           go_roundw
           case rel=>exact⟨k+1,_,by omega,by(try simp only[ok1])<;>norm_cast,hys.snoc rfl,hJ4,hb5,hbel4⟩
           case measure=>simp[intOf]<;>omega
          ·
           obtain rfl:k=M:=by omega
           gi_wp2
           refine bodyPost_ret (results_none rfl _ _ _) rfl ?_;exact⟨⟨_,rfl⟩,.inl ⟨_,hys.snoc rfl,hJ4⟩⟩
         exact AllReadyIn.nil
        exact AllReadyIn.nil
       exact AllReadyIn.nil
      refine AllReadyIn.cons rfl (fun K hK=> ?_) ?_
      ·
       go_simp;refine hK _ _ ?_;clear hK K;try simp only[PL]
       refine wpAnyIn_ready (rs:=[10,13,19]) (by kernel_rfl) (by simp) ?_;refine AllReadyIn.cons rfl (fun K hK=> ?_) ?_
       ·
        go_simp;refine hK _ _ ?_;clear hK K;try simp only[PL]
        refine wpAnyIn_ready (rs:=[13,19]) (by kernel_rfl) (by simp) ?_;refine AllReadyIn.cons rfl (fun K hK=> ?_) ?_
        ·
         go_simp;refine hK _ _ ?_;clear hK K;try simp only[PL]
         refine wpAnyIn_take (i:=14) (v:= ?v14_36) rfl rfl (by kernel_rfl) (by kernel_rfl) (by kernel_rfl) (fun _ _ _ h=>h) ⟨Or.inl ⟨by rfl, ?hy14_36⟩,fun _=>rfl⟩ ?rest14_36
         case hy14_36=>intro w;first|(go_simp;done)|(go_simp;with_reducible rfl)
         try simp only[PL]
         refine wpAnyIn_take (i:=16) (v:= ?v16_37) rfl rfl (by kernel_rfl) (by kernel_rfl) (by kernel_rfl) (fun _ _ _ h=>h) ⟨Or.inl ⟨by rfl, ?hy16_37⟩,fun _=>rfl⟩ ?rest16_37
         case hy16_37=>intro w;first|(go_simp;done)|(go_simp;with_reducible rfl)
         try simp only[PL]
         refine wpAnyIn_ready (rs:=[19]) (by kernel_rfl) (by simp) ?_;refine AllReadyIn.cons rfl (fun K hK=> ?_) ?_
         ·
          go_simp;refine⟨trivial,fun _=>by omega,(callsIn_wide.2 (llast_v F S A n c _ f1 (by omega) (by omega))).mono ?_⟩
          rintro e w4 ⟨rfl,hb4⟩
          have hb5:Blk 106 Bs #[.int .i64 F,.int .i64 S,.slice A n c,.int .i64 E,.int .i64 Y] w4:=(hb4.block Bs hb3.lt).trans hb3;obtain⟨k0,k1,k2,k3,k4⟩:=hb5.c5;have hJ4:=hJ _ _ _ hJ3 hb4;have hbel4:Below w.heap.size w w4:=hbel3.trans (hb4.mono hbel3.size)
          gi_wp2_with fail
          refine wpAnyIn_take (i:=20) (v:= ?v20_38) rfl rfl (by kernel_rfl) (by kernel_rfl) (by kernel_rfl) (fun _ _ _ h=>h) ⟨Or.inl ⟨by rfl, ?hy20_38⟩,fun _=>rfl⟩ ?rest20_38
          case hy20_38=>intro w;first|(go_simp;done)|(go_simp;with_reducible rfl)
          try simp only[PL]
          refine wpAnyIn_take (i:=21) (v:= ?v21_39) rfl rfl (by kernel_rfl) (by kernel_rfl) (by kernel_rfl) (fun _ _ _ h=>h) ⟨Or.inl ⟨by rfl, ?hy21_39⟩,fun _=>rfl⟩ ?rest21_39
          case hy21_39=>intro w;first|(go_simp;done)|(go_simp;with_reducible rfl)
          try simp only[PL]
          refine wpAnyIn_done (by kernel_rfl) ?_ _
          by_cases hkM:k<M
          ·
           have hcc:=hMa k hkM
           have hng:¬(F+(n:Int)-1<E+Y+(k:Int)):=by omega
           gi_wp2
           go_roundw
           case rel=>exact⟨k+1,_,by omega,by(try simp only[ok1])<;>norm_cast,hys.snoc rfl,hJ4,hb5,hbel4⟩
           case measure=>simp[intOf]<;>omega
          ·
           obtain rfl:k=M:=by omega
           gi_wp2
           refine bodyPost_ret (results_none rfl _ _ _) rfl ?_;exact⟨⟨_,rfl⟩,.inl ⟨_,hys.snoc rfl,hJ4⟩⟩
         exact AllReadyIn.nil
        refine AllReadyIn.cons rfl (fun K hK=> ?_) ?_
        ·
         go_simp;refine⟨trivial,fun _=>by omega,(callsIn_wide.2 (llast_v F S A n c _ f1 (by omega) (by omega))).mono ?_⟩
         rintro e w4 ⟨rfl,hb4⟩
         have hb5:Blk 106 Bs #[.int .i64 F,.int .i64 S,.slice A n c,.int .i64 E,.int .i64 Y] w4:=(hb4.block Bs hb3.lt).trans hb3;obtain⟨k0,k1,k2,k3,k4⟩:=hb5.c5;have hJ4:=hJ _ _ _ hJ3 hb4;have hbel4:Below w.heap.size w w4:=hbel3.trans (hb4.mono hbel3.size)
         gi_wp2_with fail
         refine wpAnyIn_ready (rs:=[13]) (by kernel_rfl) (by simp) ?_;refine AllReadyIn.cons rfl (fun K hK=> ?_) ?_
         ·
          go_simp;refine hK _ _ ?_;clear hK K;try simp only[PL]
          refine wpAnyIn_take (i:=14) (v:= ?v14_40) rfl rfl (by kernel_rfl) (by kernel_rfl) (by kernel_rfl) (fun _ _ _ h=>h) ⟨Or.inl ⟨by rfl, ?hy14_40⟩,fun _=>rfl⟩ ?rest14_40
          case hy14_40=>intro w;first|(go_simp;done)|(go_simp;with_reducible rfl)
          try simp only[PL]
          refine wpAnyIn_take (i:=16) (v:= ?v16_41) rfl rfl (by kernel_rfl) (by kernel_rfl) (by kernel_rfl) (fun _ _ _ h=>h) ⟨Or.inl ⟨by rfl, ?hy16_41⟩,fun _=>rfl⟩ ?rest16_41
          case hy16_41=>intro w;first|(go_simp;done)|(go_simp;with_reducible rfl)
          try simp only[PL]
          refine wpAnyIn_take (i:=20) (v:= ?v20_42) rfl rfl (by kernel_rfl) (by kernel_rfl) (by kernel_rfl) (fun _ _ _ h=>h) ⟨Or.inl ⟨by rfl, ?hy20_42⟩,fun _=>rfl⟩ ?rest20_42
          case hy20_42=>intro w;first|(go_simp;done)|(go_simp;with_reducible rfl)
          try simp only[PL]
          refine wpAnyIn_take (i:=21) (v:= ?v21_43) rfl rfl (by kernel_rfl) (by kernel_rfl) (by kernel_rfl) (fun _ _ _ h=>h) ⟨Or.inl ⟨by rfl, ?hy21_43⟩,fun _=>rfl⟩ ?rest21_43
          case hy21_43=>intro w;first|(go_simp;done)|(go_simp;with_reducible rfl)
          try simp only[PL]
          refine wpAnyIn_done (by kernel_rfl) ?_ _
          by_cases hkM:k<M
          ·
           have hcc:=hMa k hkM
           have hng:¬(F+(n:Int)-1<E+Y+(k:Int)):=by omega
           gi_wp2
           go_roundw
           case rel=>exact⟨k+1,_,by omega,by(try simp only[ok1])<;>norm_cast,hys.snoc rfl,hJ4,hb5,hbel4⟩
           case measure=>simp[intOf]<;>omega
          ·
           obtain rfl:k=M:=by omega
           gi_wp2
           refine bodyPost_ret (results_none rfl _ _ _) rfl ?_;exact⟨⟨_,rfl⟩,.inl ⟨_,hys.snoc rfl,hJ4⟩⟩
         exact AllReadyIn.nil
        exact AllReadyIn.nil
       refine AllReadyIn.cons rfl (fun K hK=> ?_) ?_
       ·
        go_simp;refine hK _ _ ?_;clear hK K;try simp only[PL]
        refine wpAnyIn_ready (rs:=[10,19]) (by kernel_rfl) (by simp) ?_;refine AllReadyIn.cons rfl (fun K hK=> ?_) ?_
        ·
         go_simp;refine hK _ _ ?_;clear hK K;try simp only[PL]
         refine wpAnyIn_take (i:=14) (v:= ?v14_44) rfl rfl (by kernel_rfl) (by kernel_rfl) (by kernel_rfl) (fun _ _ _ h=>h) ⟨Or.inl ⟨by rfl, ?hy14_44⟩,fun _=>rfl⟩ ?rest14_44
         case hy14_44=>intro w;first|(go_simp;done)|(go_simp;with_reducible rfl)
         try simp only[PL]
         refine wpAnyIn_take (i:=16) (v:= ?v16_45) rfl rfl (by kernel_rfl) (by kernel_rfl) (by kernel_rfl) (fun _ _ _ h=>h) ⟨Or.inl ⟨by rfl, ?hy16_45⟩,fun _=>rfl⟩ ?rest16_45
         case hy16_45=>intro w;first|(go_simp;done)|(go_simp;with_reducible rfl)
         try simp only[PL]
         refine wpAnyIn_ready (rs:=[19]) (by kernel_rfl) (by simp) ?_;refine AllReadyIn.cons rfl (fun K hK=> ?_) ?_
         ·
          go_simp;refine⟨trivial,fun _=>by omega,(callsIn_wide.2 (llast_v F S A n c _ f1 (by omega) (by omega))).mono ?_⟩
          rintro e w4 ⟨rfl,hb4⟩
          have hb5:Blk 106 Bs #[.int .i64 F,.int .i64 S,.slice A n c,.int .i64 E,.int .i64 Y] w4:=(hb4.block Bs hb3.lt).trans hb3;obtain⟨k0,k1,k2,k3,k4⟩:=hb5.c5;have hJ4:=hJ _ _ _ hJ3 hb4;have hbel4:Below w.heap.size w w4:=hbel3.trans (hb4.mono hbel3.size)
          gi_wp2_with fail
          refine wpAnyIn_take (i:=20) (v:= ?v20_46) rfl rfl (by kernel_rfl) (by kernel_rfl) (by kernel_rfl) (fun _ _ _ h=>h) ⟨Or.inl ⟨by rfl, ?hy20_46⟩,fun _=>rfl⟩ ?rest20_46
          case hy20_46=>intro w;first|(go_simp;done)|(go_simp;with_reducible rfl)
          try simp only[PL]
          refine wpAnyIn_take (i:=21) (v:= ?v21_47) rfl rfl (by kernel_rfl) (by kernel_rfl) (by kernel_rfl) (fun _ _ _ h=>h) ⟨Or.inl ⟨by rfl, ?hy21_47⟩,fun _=>rfl⟩ ?rest21_47
          case hy21_47=>intro w;first|(go_simp;done)|(go_simp;with_reducible rfl)
          try simp only[PL]
          refine wpAnyIn_done (by kernel_rfl) ?_ _
          by_cases hkM:k<M
          ·
           have hcc:=hMa k hkM
           have hng:¬(F+(n:Int)-1<E+Y+(k:Int)):=by omega
           gi_wp2
           go_roundw
           case rel=>exact⟨k+1,_,by omega,by(try simp only[ok1])<;>norm_cast,hys.snoc rfl,hJ4,hb5,hbel4⟩
           case measure=>simp[intOf]<;>omega
          ·
           obtain rfl:k=M:=by omega
           gi_wp2
           refine bodyPost_ret (results_none rfl _ _ _) rfl ?_;exact⟨⟨_,rfl⟩,.inl ⟨_,hys.snoc rfl,hJ4⟩⟩
         exact AllReadyIn.nil
        refine AllReadyIn.cons rfl (fun K hK=> ?_) ?_
        ·
         go_simp;refine⟨trivial,fun _=>by omega,(callsIn_wide.2 (llast_v F S A n c _ f1 (by omega) (by omega))).mono ?_⟩
         rintro e w4 ⟨rfl,hb4⟩
         have hb5:Blk 106 Bs #[.int .i64 F,.int .i64 S,.slice A n c,.int .i64 E,.int .i64 Y] w4:=(hb4.block Bs hb3.lt).trans hb3;obtain⟨k0,k1,k2,k3,k4⟩:=hb5.c5;have hJ4:=hJ _ _ _ hJ3 hb4;have hbel4:Below w.heap.size w w4:=hbel3.trans (hb4.mono hbel3.size)
         gi_wp2_with fail
         refine wpAnyIn_ready (rs:=[10]) (by kernel_rfl) (by simp) ?_;refine AllReadyIn.cons rfl (fun K hK=> ?_) ?_
         ·
          go_simp;refine hK _ _ ?_;clear hK K;try simp only[PL]
          refine wpAnyIn_take (i:=14) (v:= ?v14_48) rfl rfl (by kernel_rfl) (by kernel_rfl) (by kernel_rfl) (fun _ _ _ h=>h) ⟨Or.inl ⟨by rfl, ?hy14_48⟩,fun _=>rfl⟩ ?rest14_48
          case hy14_48=>intro w;first|(go_simp;done)|(go_simp;with_reducible rfl)
          try simp only[PL]
          refine wpAnyIn_take (i:=16) (v:= ?v16_49) rfl rfl (by kernel_rfl) (by kernel_rfl) (by kernel_rfl) (fun _ _ _ h=>h) ⟨Or.inl ⟨by rfl, ?hy16_49⟩,fun _=>rfl⟩ ?rest16_49
          case hy16_49=>intro w;first|(go_simp;done)|(go_simp;with_reducible rfl)
          try simp only[PL]
          refine wpAnyIn_take (i:=20) (v:= ?v20_50) rfl rfl (by kernel_rfl) (by kernel_rfl) (by kernel_rfl) (fun _ _ _ h=>h) ⟨Or.inl ⟨by rfl, ?hy20_50⟩,fun _=>rfl⟩ ?rest20_50
          case hy20_50=>intro w;first|(go_simp;done)|(go_simp;with_reducible rfl)
          try simp only[PL]
          refine wpAnyIn_take (i:=21) (v:= ?v21_51) rfl rfl (by kernel_rfl) (by kernel_rfl) (by kernel_rfl) (fun _ _ _ h=>h) ⟨Or.inl ⟨by rfl, ?hy21_51⟩,fun _=>rfl⟩ ?rest21_51
          case hy21_51=>intro w;first|(go_simp;done)|(go_simp;with_reducible rfl)
          try simp only[PL]
          refine wpAnyIn_done (by kernel_rfl) ?_ _
          by_cases hkM:k<M
          ·
           have hcc:=hMa k hkM
           have hng:¬(F+(n:Int)-1<E+Y+(k:Int)):=by omega
           gi_wp2
           go_roundw
           case rel=>exact⟨k+1,_,by omega,by(try simp only[ok1])<;>norm_cast,hys.snoc rfl,hJ4,hb5,hbel4⟩
           case measure=>simp[intOf]<;>omega
          ·
           obtain rfl:k=M:=by omega
           gi_wp2
           refine bodyPost_ret (results_none rfl _ _ _) rfl ?_;exact⟨⟨_,rfl⟩,.inl ⟨_,hys.snoc rfl,hJ4⟩⟩
         exact AllReadyIn.nil
        exact AllReadyIn.nil
       refine AllReadyIn.cons rfl (fun K hK=> ?_) ?_
       ·
        go_simp;refine⟨trivial,fun _=>by omega,(callsIn_wide.2 (llast_v F S A n c _ f1 (by omega) (by omega))).mono ?_⟩
        rintro e w4 ⟨rfl,hb4⟩
        have hb5:Blk 106 Bs #[.int .i64 F,.int .i64 S,.slice A n c,.int .i64 E,.int .i64 Y] w4:=(hb4.block Bs hb3.lt).trans hb3;obtain⟨k0,k1,k2,k3,k4⟩:=hb5.c5;have hJ4:=hJ _ _ _ hJ3 hb4;have hbel4:Below w.heap.size w w4:=hbel3.trans (hb4.mono hbel3.size)
        gi_wp2_with fail
        refine wpAnyIn_ready (rs:=[10,13]) (by kernel_rfl) (by simp) ?_;refine AllReadyIn.cons rfl (fun K hK=> ?_) ?_
        ·
         go_simp;refine hK _ _ ?_;clear hK K;try simp only[PL]
         refine wpAnyIn_ready (rs:=[13]) (by kernel_rfl) (by simp) ?_;refine AllReadyIn.cons rfl (fun K hK=> ?_) ?_
         ·
          go_simp;refine hK _ _ ?_;clear hK K;try simp only[PL]
          refine wpAnyIn_take (i:=14) (v:= ?v14_52) rfl rfl (by kernel_rfl) (by kernel_rfl) (by kernel_rfl) (fun _ _ _ h=>h) ⟨Or.inl ⟨by rfl, ?hy14_52⟩,fun _=>rfl⟩ ?rest14_52
          case hy14_52=>intro w;first|(go_simp;done)|(go_simp;with_reducible rfl)
          try simp only[PL]
          refine wpAnyIn_take (i:=16) (v:= ?v16_53) rfl rfl (by kernel_rfl) (by kernel_rfl) (by kernel_rfl) (fun _ _ _ h=>h) ⟨Or.inl ⟨by rfl, ?hy16_53⟩,fun _=>rfl⟩ ?rest16_53
          case hy16_53=>intro w;first|(go_simp;done)|(go_simp;with_reducible rfl)
          try simp only[PL]
          refine wpAnyIn_take (i:=20) (v:= ?v20_54) rfl rfl (by kernel_rfl) (by kernel_rfl) (by kernel_rfl) (fun _ _ _ h=>h) ⟨Or.inl ⟨by rfl, ?hy20_54⟩,fun _=>rfl⟩ ?rest20_54
          case hy20_54=>intro w;first|(go_simp;done)|(go_simp;with_reducible rfl)
          try simp only[PL]
          refine wpAnyIn_take (i:=21) (v:= ?v21_55) rfl rfl (by kernel_rfl) (by kernel_rfl) (by kernel_rfl) (fun _ _ _ h=>h) ⟨Or.inl ⟨by rfl, ?hy21_55⟩,fun _=>rfl⟩ ?rest21_55
          case hy21_55=>intro w;first|(go_simp;done)|(go_simp;with_reducible rfl)
          try simp only[PL]
          refine wpAnyIn_done (by kernel_rfl) ?_ _
          by_cases hkM:k<M
          ·
           have hcc:=hMa k hkM
           have hng:¬(F+(n:Int)-1<E+Y+(k:Int)):=by omega
           gi_wp2
           go_roundw
           case rel=>exact⟨k+1,_,by omega,by(try simp only[ok1])<;>norm_cast,hys.snoc rfl,hJ4,hb5,hbel4⟩
           case measure=>simp[intOf]<;>omega
          ·
           obtain rfl:k=M:=by omega
           gi_wp2
           refine bodyPost_ret (results_none rfl _ _ _) rfl ?_;exact⟨⟨_,rfl⟩,.inl ⟨_,hys.snoc rfl,hJ4⟩⟩
         exact AllReadyIn.nil
        refine AllReadyIn.cons rfl (fun K hK=> ?_) ?_
        ·
         go_simp;refine hK _ _ ?_;clear hK K;try simp only[PL]
         refine wpAnyIn_ready (rs:=[10]) (by kernel_rfl) (by simp) ?_;refine AllReadyIn.cons rfl (fun K hK=> ?_) ?_
         ·
          go_simp;refine hK _ _ ?_;clear hK K;try simp only[PL]
          refine wpAnyIn_take (i:=14) (v:= ?v14_56) rfl rfl (by kernel_rfl) (by kernel_rfl) (by kernel_rfl) (fun _ _ _ h=>h) ⟨Or.inl ⟨by rfl, ?hy14_56⟩,fun _=>rfl⟩ ?rest14_56
          case hy14_56=>intro w;first|(go_simp;done)|(go_simp;with_reducible rfl)
          try simp only[PL]
          refine wpAnyIn_take (i:=16) (v:= ?v16_57) rfl rfl (by kernel_rfl) (by kernel_rfl) (by kernel_rfl) (fun _ _ _ h=>h) ⟨Or.inl ⟨by rfl, ?hy16_57⟩,fun _=>rfl⟩ ?rest16_57
          case hy16_57=>intro w;first|(go_simp;done)|(go_simp;with_reducible rfl)
          try simp only[PL]
          refine wpAnyIn_take (i:=20) (v:= ?v20_58) rfl rfl (by kernel_rfl) (by kernel_rfl) (by kernel_rfl) (fun _ _ _ h=>h) ⟨Or.inl ⟨by rfl, ?hy20_58⟩,fun _=>rfl⟩ ?rest20_58
          case hy20_58=>intro w;first|(go_simp;done)|(go_simp;with_reducible rfl)
          try simp only[PL]
          refine wpAnyIn_take (i:=21) (v:= ?v21_59) rfl rfl (by kernel_rfl) (by kernel_rfl) (by kernel_rfl) (fun _ _ _ h=>h) ⟨Or.inl ⟨by rfl, ?hy21_59⟩,fun _=>rfl⟩ ?rest21_59
          case hy21_59=>intro w;first|(go_simp;done)|(go_simp;with_reducible rfl)
          try simp only[PL]
          refine wpAnyIn_done (by kernel_rfl) ?_ _
          by_cases hkM:k<M
          ·
           have hcc:=hMa k hkM
           have hng:¬(F+(n:Int)-1<E+Y+(k:Int)):=by omega
           gi_wp2
           go_roundw
           case rel=>exact⟨k+1,_,by omega,by(try simp only[ok1])<;>norm_cast,hys.snoc rfl,hJ4,hb5,hbel4⟩
           case measure=>simp[intOf]<;>omega
          ·
           obtain rfl:k=M:=by omega
           gi_wp2
           refine bodyPost_ret (results_none rfl _ _ _) rfl ?_;exact⟨⟨_,rfl⟩,.inl ⟨_,hys.snoc rfl,hJ4⟩⟩
         exact AllReadyIn.nil
        exact AllReadyIn.nil
       exact AllReadyIn.nil
      exact AllReadyIn.nil
     ·
      gi_wp2_with fail
      refine wpAnyIn_take (i:=6) (v:= ?v6_60) rfl rfl (by kernel_rfl) (by kernel_rfl) (by kernel_rfl) (fun _ _ _ h=>h) ⟨Or.inl ⟨by rfl, ?hy6_60⟩,fun _=>rfl⟩ ?rest6_60
      case hy6_60=>intro w;first|(go_simp;done)|(go_simp;with_reducible rfl)
      try simp only[PL]
      refine wpAnyIn_take (i:=7) (v:= ?v7_61) rfl rfl (by kernel_rfl) (by kernel_rfl) (by kernel_rfl) (fun _ _ _ h=>h) ⟨Or.inl ⟨by rfl, ?hy7_61⟩,fun _=>rfl⟩ ?rest7_61
      case hy7_61=>intro w;first|(go_simp;done)|(go_simp;with_reducible rfl)
      try simp only[PL]
      refine wpAnyIn_take (i:=8) (v:=undef) rfl rfl (by kernel_rfl) (by kernel_rfl) (by kernel_rfl) (fun _ _ _ h=>h) ⟨Or.inr ⟨by rfl,rfl⟩,fun _=>rfl⟩ ?_;try simp only[PL]
      refine wpAnyIn_take (i:=9) (v:=undef) rfl rfl (by kernel_rfl) (by kernel_rfl) (by kernel_rfl) (fun _ _ _ h=>h) ⟨Or.inr ⟨by rfl,rfl⟩,fun _=>rfl⟩ ?_;try simp only[PL]
      refine wpAnyIn_take (i:=10) (v:=undef) rfl rfl (by kernel_rfl) (by kernel_rfl) (by kernel_rfl) (fun _ _ _ h=>h) ⟨Or.inr ⟨by rfl,rfl⟩,fun _=>rfl⟩ ?_;try simp only[PL]
      refine wpAnyIn_take (i:=11) (v:=undef) rfl rfl (by kernel_rfl) (by kernel_rfl) (by kernel_rfl) (fun _ _ _ h=>h) ⟨Or.inr ⟨by rfl,rfl⟩,fun _=>rfl⟩ ?_;try simp only[PL]
      refine wpAnyIn_take (i:=12) (v:=undef) rfl rfl (by kernel_rfl) (by kernel_rfl) (by kernel_rfl) (fun _ _ _ h=>h) ⟨Or.inr ⟨by rfl,rfl⟩,fun _=>rfl⟩ ?_;try simp only[PL]
      refine wpAnyIn_take (i:=13) (v:=undef) rfl rfl (by kernel_rfl) (by kernel_rfl) (by kernel_rfl) (fun _ _ _ h=>h) ⟨Or.inr ⟨by rfl,rfl⟩,fun _=>rfl⟩ ?_;try simp only[PL]
      refine wpAnyIn_take (i:=14) (v:=undef) rfl rfl (by kernel_rfl) (by kernel_rfl) (by kernel_rfl) (fun _ _ _ h=>h) ⟨Or.inr ⟨by rfl,rfl⟩,fun _=>rfl⟩ ?_;try simp only[PL]
      refine wpAnyIn_take (i:=15) (v:=undef) rfl rfl (by kernel_rfl) (by kernel_rfl) (by kernel_rfl) (fun _ _ _ h=>h) ⟨Or.inr ⟨by rfl,rfl⟩,fun _=>rfl⟩ ?_;try simp only[PL]
      refine wpAnyIn_take (i:=16) (v:=undef) rfl rfl (by kernel_rfl) (by kernel_rfl) (by kernel_rfl) (fun _ _ _ h=>h) ⟨Or.inr ⟨by rfl,rfl⟩,fun _=>rfl⟩ ?_;try simp only[PL]
      refine wpAnyIn_take (i:=17) (v:=undef) rfl rfl (by kernel_rfl) (by kernel_rfl) (by kernel_rfl) (fun _ _ _ h=>h) ⟨Or.inr ⟨by rfl,rfl⟩,fun _=>rfl⟩ ?_;try simp only[PL]
      refine wpAnyIn_take (i:=18) (v:=undef) rfl rfl (by kernel_rfl) (by kernel_rfl) (by kernel_rfl) (fun _ _ _ h=>h) ⟨Or.inr ⟨by rfl,rfl⟩,fun _=>rfl⟩ ?_;try simp only[PL]
      refine wpAnyIn_ready (rs:=[19]) (by kernel_rfl) (by simp) ?_;refine AllReadyIn.cons rfl (fun K hK=> ?_) ?_
      ·
       go_simp;refine⟨trivial,hK _ _ ?_⟩;clear hK K;try simp only[PL]
       refine wpAnyIn_take (i:=20) (v:=undef) rfl rfl (by kernel_rfl) (by kernel_rfl) (by kernel_rfl) (fun _ _ _ h=>h) ⟨Or.inr ⟨by rfl,rfl⟩,fun _=>rfl⟩ ?_;try simp only[PL]
       refine wpAnyIn_take (i:=21) (v:= ?v21_74) rfl rfl (by kernel_rfl) (by kernel_rfl) (by kernel_rfl) (fun _ _ _ h=>h) ⟨Or.inl ⟨by rfl, ?hy21_74⟩,fun _=>rfl⟩ ?rest21_74
       case hy21_74=>intro w;first|(go_simp;done)|(go_simp;with_reducible rfl)
       try simp only[PL]
       refine wpAnyIn_done (by kernel_rfl) ?_ _
       gi_wp2
       refine bodyPost_ret (results_none rfl _ _ _) rfl ?_;exact⟨⟨_,rfl⟩,.inr ⟨_,⟨k+1,by omega,hys.snoc rfl⟩,hJx3⟩⟩
      exact AllReadyIn.nil
    exact AllReadyIn.nil
   exact AllReadyIn.nil
  exact AllReadyIn.nil

theorem years_in (m:Nat)(F S E Y:Int)(A:Option Addr)(n c:Nat)(w:World):
  CallsIn Fence.wide m Tryz.prog 178 #[.agg #[.int .i64 F,.int .i64 S,.slice A n c,.int .i64 E,.int .i64 Y]] w fun e w'=>
   e= .returned (.func (.func 186) #[] #[.pointer (some ⟨w.heap.size,0,none⟩)])/\w'=w.alloc (.cells #[.int .i64 F,.int .i64 S,.slice A n c,.int .i64 E,.int .i64 Y] 106):=by
 have hro:Fence.wide.round=none:=rfl;refine callsIn_of_wp Tryz.func178 rfl trivial ?_ hro;simp only[Tryz.ntmps178,List.size_toArray,List.length_cons,List.length_nil,Nat.reduceAdd,Nat.reduceSub,Array.replicate_succ,Array.replicate_zero,List.push_toArray,List.append_toArray,List.nil_append,List.cons_append]
 gi_wp2
 go_ret
 exact⟨rfl,rfl⟩

theorem AbidesFrom_below {β:Type}{B:Nat}{J:β->World->Prop}(h:AbidesFrom B J){s:β}{W W':World}(hs:J s W)(hb:Below W.heap.size W W'):J s W':=
 h s W W' none hs ⟨hb.os,hb.tape,hb.output,hb.size,fun k hk _=>hb.block k hk⟩ (fun _ e=>by cases e)

theorem years_seq (m:Nat)(hm:2<=m)(Bs n₀:Nat){F S E Y:Int}{A:Option Addr}{n c:Nat}{r:Nat->RH}{w:World}(hn₀:w.heap.size<=n₀)(hT:TabM w A n r)(hR:RightP F S n r E Y)(M:Nat)(hM:M<=1000)(hMa:∀k:Nat,k<M->E+Y+(k:Int)<=F+(n:Int)-1)(hMb:F+(n:Int)-1<E+Y+(M:Int))
  (w0:World) (hb0:Below w.heap.size w w0) (hBs:Blk 106 Bs #[.int .i64 F,.int .i64 S,.slice A n c,.int .i64 E,.int .i64 Y] w0):
  SeqV Fence.wide m Tryz.prog 186 #[.pointer (some ⟨Bs,0,none⟩)] Yr.vals (KpB n₀ Bs) (Yr.fit (fun k=>rt F S n r E Y (k:Int)))
   (fun ys=>Yrs ys (M+1)) (fun pre=>∃j,j<=M+1/\Yrs pre j) (M+1) w0:=fun l J Jx W hW hJ _ hY h0=>
 years1_in m hm l Bs n₀ hn₀ hT hR M hM hMa hMb J Jx (fun _ _ _ hs hb=>AbidesFrom_below hJ hs hb) hY W (hBs.below hW hBs.lt) (hb0.trans (hW.mono hb0.size)) h0
end Go.Proofs.YtclbiihcbfnjmaaGreat
