/-
  Parts.
-/
import Derived.Test.YtclbiihcbfnjmaaGreatK14
set_option linter.unusedSimpArgs false
set_option maxRecDepth 100000
set_option maxHeartbeats 4000000
namespace Go.Proofs.YtclbiihcbfnjmaaGreat
open Go.RowKit Go.Shelf
attribute [local go_sem] Oper.semAt_some

structure Yr where
 k:Nat
 s:Bool
 A:Option Addr
 n:Nat
 c:Nat
 t:Bool
 B:Option Addr
 m:Nat
 d:Nat
def Yr.vals (x:Yr):Array Value:=#[.int .i64 (x.k:Int),.agg (az x.s x.A x.n x.c x.t x.B x.m x.d)]
def Yr.fit (q:Nat->Rat)(pre:List Yr)(x:Yr)(W:World):Prop:=x.k=pre.length/\FV W (q x.k) x.s x.A x.n x.t x.B x.m
def JV (l:List Yr)(j:Nat):Prop:=l.map Yr.k=List.range j
theorem JV.nil :JV [] 0:=rfl
theorem JV.snoc {l:List Yr}{j:Nat}{x:Yr}(h:JV l j)(hx:x.k=j):JV (l++ [x]) (j+1):=by
 unfold JV at*
 rw[List.map_append,h,List.range_succ,<-hx];rfl
theorem JV.length {l:List Yr}{j:Nat}(h:JV l j):l.length=j:=by
 have:=gn List.length h
 simpa using this
theorem uB.blk {n₀ Bs:Nat}{t:TypeId}{cs:Array Value}{W W':World}(h:uB n₀ Bs W W')(hb:au t Bs cs W):au t Bs cs W':=h.2.trans hb

theorem kK (B:Nat)(w:World):Below B w w.drew:=⟨rfl,rfl,rfl,aq _,fun _ _=>rfl⟩
theorem LP (m:Nat)(hm:2<=m)(l Bs n₀:Nat){F S E Y:Int}{A:Option Addr}{n c:Nat}{r:Nat->RH}{w:World}(hn₀:w.heap.size<=n₀)(hT:eZ w A n r)(hR:dH F S n r E Y)(M:Nat)(hM:M<=1000)(Cu:∀k:Nat,k<M->E+Y+(k:Int)<=F+(n:Int)-1)(hMb:F+(n:Int)-1<E+Y+(M:Int))
  (J Jx:List Yr->World->Prop)
  (hJ:∀pre (W W':World),J pre W->Below W.heap.size W W'->J pre W')
  (hY:∀pre x W,J pre W->Yr.fit (fun k=>rt F S n r E Y (k:Int)) pre x W->pre.length<M+1->YieldAt Fence.wide (m-1) Tryz.prog l x.vals W fun e W'=>
   (e= .returned (.bool true)/\J (pre++ [x]) W'/\uB n₀ Bs W W')\/(e= .returned (.bool false)/\Jx (pre++ [x]) W'))
  (W:World) (Hf:au 106 Bs #[.int .i64 F,.int .i64 S,.slice A n c,.int .i64 E,.int .i64 Y] W) (hW:Below w.heap.size w W) (h0:J [] W):
  CallsIn Fence.wide m Tryz.prog 186 #[.func (.yield l) #[] #[],.pointer (some ⟨Bs,0,none⟩)] W fun e W'=>(∃v,e= .returned v)/\
   ((∃ys,JV ys (M+1)/\J ys W')\/(∃pre,(∃j,j<=M+1/\JV pre j)/\Jx pre W')):=by
 have hro:Fence.wide.round=none:=rfl;refine callsIn_of_wp Tryz.func186 rfl trivial ?_ hro;simp only[Tryz.ntmps186,List.size_toArray,List.length_cons,List.length_nil,Nat.reduceAdd,Nat.reduceSub,Array.replicate_succ,Array.replicate_zero,List.push_toArray,List.append_toArray,List.nil_append,List.cons_append]
 gi_wp2
 gi_loopw [3] (fun i wr=>∃(k:Nat) (pre:List Yr),k<=M/\i= .int .i64 (k:Int)/\JV pre k/\J pre wr/\au 106 Bs #[.int .i64 F,.int .i64 S,.slice A n c,.int .i64 E,.int .i64 Y] wr/\Below w.heap.size w wr)
  (fun i _=>(M+1-(intOf i).toNat))
 case atStart=>exact⟨0,[],bF _,rfl,JV.nil,h0,Hf,hW⟩
 case round=>
  obtain⟨k,pre,hk,rfl,hys,hJs,adS,bh⟩:=hrel;obtain⟨k0,k1,k2,k3,k4⟩:=adS.c5;obtain⟨ht,r1,r2,r3,r4⟩:=id hR;obtain⟨f1,f2,s1,s2,n1,n2⟩:0<=F/\F<=150/\0<=S/\S<=5/\1<=n/\n<=111:=⟨ht.1.1.1,ht.1.1.2,ht.1.2.1,ht.1.2.2,ht.2.1.1,ht.2.1.2⟩
  have o1:IntKind.i64.wrap (E+Y)=E+Y:=by rw[cL];omega
  have o2:IntKind.i64.wrap (E+Y+(k:Int))=E+Y+(k:Int):=by rw[cL];omega
  have o3:IntKind.i64.wrap ((k:Int)+1)=(k:Int)+1:=by rw[cL];omega
  have hmx: Tryz.prog.follows .mixedOrders=true:=by kernel_rfl
  gi_wp2
  refine wpIn_region_any (by assumption) ?_
  try(change wpAnyIn _ _ _ _ _ _ _ _ _ (World.drew _))
  refine aS (i:=0) (v:= ?asM) rfl rfl (by kernel_rfl) (by kernel_rfl) (by kernel_rfl) (fun _ _ _ h=>h) ⟨Or.inl ⟨by rfl, ?aiG⟩,fun _=>rfl⟩ ?ak2
  case aiG=>intro w;first|(go_simp;done)|(go_simp;with_reducible rfl)
  try simp only[PL]
  refine aS (i:=1) (v:= ?asN) rfl rfl (by kernel_rfl) (by kernel_rfl) (by kernel_rfl) (fun _ _ _ h=>h) ⟨Or.inl ⟨by rfl, ?aiH⟩,fun _=>rfl⟩ ?ak3
  case aiH=>intro w;first|(go_simp;done)|(go_simp;with_reducible rfl)
  try simp only[PL]
  refine aS (i:=3) (v:= ?asO) rfl rfl (by kernel_rfl) (by kernel_rfl) (by kernel_rfl) (fun _ _ _ h=>h) ⟨Or.inl ⟨by rfl, ?aiI⟩,fun _=>rfl⟩ ?ak4
  case aiI=>intro w;first|(go_simp;done)|(go_simp;with_reducible rfl)
  try simp only[PL]
  refine cI (rs:=[2]) (by kernel_rfl) (by simp) ?_;refine bD rfl (fun K hK=> ?_) ?_
  ·
   go_simp;refine hK _ _ ?_;clear hK K;try simp only[PL]
   refine cI (rs:=[4]) (by kernel_rfl) (by simp) ?_;refine bD rfl (fun K hK=> ?_) ?_
   ·
    go_simp;refine⟨trivial,fun _=>by omega,(cG.2 (JT (k:=(k:Int)) (hT.below (bh.trans (kK _ _))) hR (by omega) (by omega))).mono ?_⟩
    rintro e w1 ⟨s1,A1,n1,c1,t1,B1,m1,d1,rfl,hF1,eD⟩
    have eS:au 106 Bs #[.int .i64 F,.int .i64 S,.slice A n c,.int .i64 E,.int .i64 Y] w1:=(eD.block Bs adS.lt).trans adS;have dS:Below w.heap.size w w1:=(bh.trans (kK _ _)).trans (eD.mono (bh.trans (kK _ _)).size);have hJ1:=hJ _ _ _ (hJ _ _ _ hJs (kK _ _)) eD;obtain⟨fn,tmps,assign,body,hy,yL⟩:=hY _ ⟨k,s1,A1,n1,c1,t1,B1,m1,d1⟩ w1 hJ1 ⟨hys.length.symm,hF1⟩ (by rw[hys.length];omega)
    gi_wp2_with fail
    refine cI (rs:=[5]) (by kernel_rfl) (by simp) ?_;refine bD rfl (fun K hK=> ?_) ?_
    ·
     dsimp only[Yr.vals] at hy
     go_simp;refine⟨fun _=>by omega,yL.mono ?_⟩
     rintro e W3 (⟨rfl,LQ,hk3⟩|⟨rfl,adT⟩)
     ·
      have iz:=hk3.blk eS;obtain⟨k0,k1,k2,k3,k4⟩:=iz.c5;have eT:Below w.heap.size w W3:=(dS.trans (hk3.1.mono hn₀))
      gi_wp2_with fail
      refine aS (i:=6) (v:= ?asP) rfl rfl (by kernel_rfl) (by kernel_rfl) (by kernel_rfl) (fun _ _ _ h=>h) ⟨Or.inl ⟨by rfl, ?aiJ⟩,fun _=>rfl⟩ ?ak5
      case aiJ=>intro w;first|(go_simp;done)|(go_simp;with_reducible rfl)
      try simp only[PL]
      refine aS (i:=7) (v:= ?asQ) rfl rfl (by kernel_rfl) (by kernel_rfl) (by kernel_rfl) (fun _ _ _ h=>h) ⟨Or.inl ⟨by rfl, ?aiK⟩,fun _=>rfl⟩ ?ak6
      case aiK=>intro w;first|(go_simp;done)|(go_simp;with_reducible rfl)
      try simp only[PL]
      refine aS (i:=8) (v:= ?asR) rfl rfl (by kernel_rfl) (by kernel_rfl) (by kernel_rfl) (fun _ _ _ h=>h) ⟨Or.inl ⟨by rfl, ?aiL⟩,fun _=>rfl⟩ ?ak7
      case aiL=>intro w;first|(go_simp;done)|(go_simp;with_reducible rfl)
      try simp only[PL]
      refine aS (i:=9) (v:= ?asS) rfl rfl (by kernel_rfl) (by kernel_rfl) (by kernel_rfl) (fun _ _ _ h=>h) ⟨Or.inl ⟨by rfl, ?aiM⟩,fun _=>rfl⟩ ?ak8
      case aiM=>intro w;first|(go_simp;done)|(go_simp;with_reducible rfl)
      try simp only[PL]
      refine aS (i:=11) (v:= ?aq1) rfl rfl (by kernel_rfl) (by kernel_rfl) (by kernel_rfl) (fun _ _ _ h=>h) ⟨Or.inl ⟨by rfl, ?adU⟩,fun _=>rfl⟩ ?aiN
      case adU=>intro w;first|(go_simp;done)|(go_simp;with_reducible rfl)
      try simp only[PL]
      refine aS (i:=12) (v:= ?aq2) rfl rfl (by kernel_rfl) (by kernel_rfl) (by kernel_rfl) (fun _ _ _ h=>h) ⟨Or.inl ⟨by rfl, ?adV⟩,fun _=>rfl⟩ ?aiO
      case adV=>intro w;first|(go_simp;done)|(go_simp;with_reducible rfl)
      try simp only[PL]
      refine aS (i:=15) (v:= ?aoR) rfl rfl (by kernel_rfl) (by kernel_rfl) (by kernel_rfl) (fun _ _ _ h=>h) ⟨Or.inl ⟨by rfl, ?WZ⟩,fun _=>rfl⟩ ?aeH
      case WZ=>intro w;first|(go_simp;done)|(go_simp;with_reducible rfl)
      try simp only[PL]
      refine aS (i:=17) (v:= ?aoS) rfl rfl (by kernel_rfl) (by kernel_rfl) (by kernel_rfl) (fun _ _ _ h=>h) ⟨Or.inl ⟨by rfl, ?Xa⟩,fun _=>rfl⟩ ?aeI
      case Xa=>intro w;first|(go_simp;done)|(go_simp;with_reducible rfl)
      try simp only[PL]
      refine cI (rs:=[10,13,18]) (by kernel_rfl) (by simp) ?_;refine bD rfl (fun K hK=> ?_) ?_
      ·
       go_simp;refine hK _ _ ?_;clear hK K;try simp only[PL]
       refine cI (rs:=[13,18]) (by kernel_rfl) (by simp) ?_;refine bD rfl (fun K hK=> ?_) ?_
       ·
        go_simp;refine hK _ _ ?_;clear hK K;try simp only[PL]
        refine aS (i:=14) (v:= ?aoT) rfl rfl (by kernel_rfl) (by kernel_rfl) (by kernel_rfl) (fun _ _ _ h=>h) ⟨Or.inl ⟨by rfl, ?Xb⟩,fun _=>rfl⟩ ?aeJ
        case Xb=>intro w;first|(go_simp;done)|(go_simp;with_reducible rfl)
        try simp only[PL]
        refine aS (i:=16) (v:= ?aoU) rfl rfl (by kernel_rfl) (by kernel_rfl) (by kernel_rfl) (fun _ _ _ h=>h) ⟨Or.inl ⟨by rfl, ?Xc⟩,fun _=>rfl⟩ ?aeK
        case Xc=>intro w;first|(go_simp;done)|(go_simp;with_reducible rfl)
        try simp only[PL]
        refine cI (rs:=[18]) (by kernel_rfl) (by simp) ?_;refine bD rfl (fun K hK=> ?_) ?_
        ·
         go_simp;refine hK _ _ ?_;clear hK K;try simp only[PL]
         refine cI (rs:=[19]) (by kernel_rfl) (by simp) ?_;refine bD rfl (fun K hK=> ?_) ?_
         ·
          go_simp;refine⟨trivial,fun _=>by omega,(cG.2 (eO F S A n c _ f1 (by omega) (by omega))).mono ?_⟩
          rintro e w4 ⟨rfl,jf⟩
          have fC:au 106 Bs #[.int .i64 F,.int .i64 S,.slice A n c,.int .i64 E,.int .i64 Y] w4:=(jf.block Bs iz.lt).trans iz;obtain⟨k0,k1,k2,k3,k4⟩:=fC.c5;have oZ:=hJ _ _ _ LQ jf;have fK:Below w.heap.size w w4:=eT.trans (jf.mono eT.size)
          gi_wp2_with fail
          refine aS (i:=20) (v:= ?aoV) rfl rfl (by kernel_rfl) (by kernel_rfl) (by kernel_rfl) (fun _ _ _ h=>h) ⟨Or.inl ⟨by rfl, ?Xd⟩,fun _=>rfl⟩ ?aeL
          case Xd=>intro w;first|(go_simp;done)|(go_simp;with_reducible rfl)
          try simp only[PL]
          refine aS (i:=21) (v:= ?aoW) rfl rfl (by kernel_rfl) (by kernel_rfl) (by kernel_rfl) (fun _ _ _ h=>h) ⟨Or.inl ⟨by rfl, ?Xe⟩,fun _=>rfl⟩ ?aeM
          case Xe=>intro w;first|(go_simp;done)|(go_simp;with_reducible rfl)
          try simp only[PL]
          refine gE (by kernel_rfl) ?_ _
          by_cases wD:k<M
          ·
           have xG:=Cu k wD
           have Ln:¬(F+(n:Int)-1<E+Y+(k:Int)):=by omega
           gi_wp2
           go_roundw
           case rel=>exact⟨k+1,_,by omega,by(try simp only[Sq])<;>norm_cast,hys.snoc rfl,oZ,fC,fK⟩
           case measure=>simp[intOf]<;>omega
          ·
           obtain rfl:k=M:=by omega
           gi_wp2
           refine aK (iR rfl _ _ _) rfl ?_;exact⟨⟨_,rfl⟩,.inl ⟨_,hys.snoc rfl,oZ⟩⟩
         exact cJ
        exact cJ
       refine bD rfl (fun K hK=> ?_) ?_
       ·
        go_simp;refine hK _ _ ?_;clear hK K;try simp only[PL]
        refine cI (rs:=[13,19]) (by kernel_rfl) (by simp) ?_;refine bD rfl (fun K hK=> ?_) ?_
        ·
         go_simp;refine hK _ _ ?_;clear hK K;try simp only[PL]
         refine aS (i:=14) (v:= ?aoX) rfl rfl (by kernel_rfl) (by kernel_rfl) (by kernel_rfl) (fun _ _ _ h=>h) ⟨Or.inl ⟨by rfl, ?Xf⟩,fun _=>rfl⟩ ?aeN
         case Xf=>intro w;first|(go_simp;done)|(go_simp;with_reducible rfl)
         try simp only[PL]
         refine aS (i:=16) (v:= ?aoY) rfl rfl (by kernel_rfl) (by kernel_rfl) (by kernel_rfl) (fun _ _ _ h=>h) ⟨Or.inl ⟨by rfl, ?Xg⟩,fun _=>rfl⟩ ?aeO
         case Xg=>intro w;first|(go_simp;done)|(go_simp;with_reducible rfl)
         try simp only[PL]
         refine cI (rs:=[19]) (by kernel_rfl) (by simp) ?_;refine bD rfl (fun K hK=> ?_) ?_
         ·
          go_simp;refine⟨trivial,fun _=>by omega,(cG.2 (eO F S A n c _ f1 (by omega) (by omega))).mono ?_⟩
          rintro e w4 ⟨rfl,jf⟩
          have fC:au 106 Bs #[.int .i64 F,.int .i64 S,.slice A n c,.int .i64 E,.int .i64 Y] w4:=(jf.block Bs iz.lt).trans iz;obtain⟨k0,k1,k2,k3,k4⟩:=fC.c5;have oZ:=hJ _ _ _ LQ jf;have fK:Below w.heap.size w w4:=eT.trans (jf.mono eT.size)
          gi_wp2_with fail
          refine aS (i:=20) (v:= ?aoZ) rfl rfl (by kernel_rfl) (by kernel_rfl) (by kernel_rfl) (fun _ _ _ h=>h) ⟨Or.inl ⟨by rfl, ?Xh⟩,fun _=>rfl⟩ ?aeP
          case Xh=>intro w;first|(go_simp;done)|(go_simp;with_reducible rfl)
          try simp only[PL]
          refine aS (i:=21) (v:= ?ao0) rfl rfl (by kernel_rfl) (by kernel_rfl) (by kernel_rfl) (fun _ _ _ h=>h) ⟨Or.inl ⟨by rfl, ?Xi⟩,fun _=>rfl⟩ ?aeQ
          case Xi=>intro w;first|(go_simp;done)|(go_simp;with_reducible rfl)
          try simp only[PL]
          refine gE (by kernel_rfl) ?_ _
          by_cases wD:k<M
          ·
           have xG:=Cu k wD
           have Ln:¬(F+(n:Int)-1<E+Y+(k:Int)):=by omega
           gi_wp2
           go_roundw
           case rel=>exact⟨k+1,_,by omega,by(try simp only[Sq])<;>norm_cast,hys.snoc rfl,oZ,fC,fK⟩
           case measure=>simp[intOf]<;>omega
          ·
           obtain rfl:k=M:=by omega
           gi_wp2
           refine aK (iR rfl _ _ _) rfl ?_;exact⟨⟨_,rfl⟩,.inl ⟨_,hys.snoc rfl,oZ⟩⟩
         exact cJ
        refine bD rfl (fun K hK=> ?_) ?_
        ·
         go_simp;refine⟨trivial,fun _=>by omega,(cG.2 (eO F S A n c _ f1 (by omega) (by omega))).mono ?_⟩
         rintro e w4 ⟨rfl,jf⟩
         have fC:au 106 Bs #[.int .i64 F,.int .i64 S,.slice A n c,.int .i64 E,.int .i64 Y] w4:=(jf.block Bs iz.lt).trans iz;obtain⟨k0,k1,k2,k3,k4⟩:=fC.c5;have oZ:=hJ _ _ _ LQ jf;have fK:Below w.heap.size w w4:=eT.trans (jf.mono eT.size)
         gi_wp2_with fail
         refine cI (rs:=[13]) (by kernel_rfl) (by simp) ?_;refine bD rfl (fun K hK=> ?_) ?_
         ·
          go_simp;refine hK _ _ ?_;clear hK K;try simp only[PL]
          refine aS (i:=14) (v:= ?ao1) rfl rfl (by kernel_rfl) (by kernel_rfl) (by kernel_rfl) (fun _ _ _ h=>h) ⟨Or.inl ⟨by rfl, ?Xj⟩,fun _=>rfl⟩ ?aeR
          case Xj=>intro w;first|(go_simp;done)|(go_simp;with_reducible rfl)
          try simp only[PL]
          refine aS (i:=16) (v:= ?ao2) rfl rfl (by kernel_rfl) (by kernel_rfl) (by kernel_rfl) (fun _ _ _ h=>h) ⟨Or.inl ⟨by rfl, ?Xk⟩,fun _=>rfl⟩ ?aeS
          case Xk=>intro w;first|(go_simp;done)|(go_simp;with_reducible rfl)
          try simp only[PL]
          refine aS (i:=20) (v:= ?ao3) rfl rfl (by kernel_rfl) (by kernel_rfl) (by kernel_rfl) (fun _ _ _ h=>h) ⟨Or.inl ⟨by rfl, ?Xl⟩,fun _=>rfl⟩ ?aeT
          case Xl=>intro w;first|(go_simp;done)|(go_simp;with_reducible rfl)
          try simp only[PL]
          refine aS (i:=21) (v:= ?ao4) rfl rfl (by kernel_rfl) (by kernel_rfl) (by kernel_rfl) (fun _ _ _ h=>h) ⟨Or.inl ⟨by rfl, ?Xm⟩,fun _=>rfl⟩ ?aeU
          case Xm=>intro w;first|(go_simp;done)|(go_simp;with_reducible rfl)
          try simp only[PL]
          refine gE (by kernel_rfl) ?_ _
          by_cases wD:k<M
          ·
           have xG:=Cu k wD
           have Ln:¬(F+(n:Int)-1<E+Y+(k:Int)):=by omega
           gi_wp2
           go_roundw
           case rel=>exact⟨k+1,_,by omega,by(try simp only[Sq])<;>norm_cast,hys.snoc rfl,oZ,fC,fK⟩
           case measure=>simp[intOf]<;>omega
          ·
           obtain rfl:k=M:=by omega
           gi_wp2
           refine aK (iR rfl _ _ _) rfl ?_;exact⟨⟨_,rfl⟩,.inl ⟨_,hys.snoc rfl,oZ⟩⟩
         exact cJ
        exact cJ
       exact cJ
      refine bD rfl (fun K hK=> ?_) ?_
      ·
       go_simp;refine hK _ _ ?_;clear hK K;try simp only[PL]
       refine cI (rs:=[10,18]) (by kernel_rfl) (by simp) ?_;refine bD rfl (fun K hK=> ?_) ?_
       ·
        go_simp;refine hK _ _ ?_;clear hK K;try simp only[PL]
        refine aS (i:=14) (v:= ?ao5) rfl rfl (by kernel_rfl) (by kernel_rfl) (by kernel_rfl) (fun _ _ _ h=>h) ⟨Or.inl ⟨by rfl, ?Xn⟩,fun _=>rfl⟩ ?aeV
        case Xn=>intro w;first|(go_simp;done)|(go_simp;with_reducible rfl)
        try simp only[PL]
        refine aS (i:=16) (v:= ?ao6) rfl rfl (by kernel_rfl) (by kernel_rfl) (by kernel_rfl) (fun _ _ _ h=>h) ⟨Or.inl ⟨by rfl, ?Xo⟩,fun _=>rfl⟩ ?aeW
        case Xo=>intro w;first|(go_simp;done)|(go_simp;with_reducible rfl)
        try simp only[PL]
        refine cI (rs:=[18]) (by kernel_rfl) (by simp) ?_;refine bD rfl (fun K hK=> ?_) ?_
        ·
         go_simp;refine hK _ _ ?_;clear hK K;try simp only[PL]
         refine cI (rs:=[19]) (by kernel_rfl) (by simp) ?_;refine bD rfl (fun K hK=> ?_) ?_
         ·
          go_simp;refine⟨trivial,fun _=>by omega,(cG.2 (eO F S A n c _ f1 (by omega) (by omega))).mono ?_⟩
          rintro e w4 ⟨rfl,jf⟩
          have fC:au 106 Bs #[.int .i64 F,.int .i64 S,.slice A n c,.int .i64 E,.int .i64 Y] w4:=(jf.block Bs iz.lt).trans iz;obtain⟨k0,k1,k2,k3,k4⟩:=fC.c5;have oZ:=hJ _ _ _ LQ jf;have fK:Below w.heap.size w w4:=eT.trans (jf.mono eT.size)
          gi_wp2_with fail
          refine aS (i:=20) (v:= ?ao7) rfl rfl (by kernel_rfl) (by kernel_rfl) (by kernel_rfl) (fun _ _ _ h=>h) ⟨Or.inl ⟨by rfl, ?Xp⟩,fun _=>rfl⟩ ?aeX
          case Xp=>intro w;first|(go_simp;done)|(go_simp;with_reducible rfl)
          try simp only[PL]
          refine aS (i:=21) (v:= ?ao8) rfl rfl (by kernel_rfl) (by kernel_rfl) (by kernel_rfl) (fun _ _ _ h=>h) ⟨Or.inl ⟨by rfl, ?Xq⟩,fun _=>rfl⟩ ?aeY
          case Xq=>intro w;first|(go_simp;done)|(go_simp;with_reducible rfl)
          try simp only[PL]
          refine gE (by kernel_rfl) ?_ _
          by_cases wD:k<M
          ·
           have xG:=Cu k wD
           have Ln:¬(F+(n:Int)-1<E+Y+(k:Int)):=by omega
           gi_wp2
           go_roundw
           case rel=>exact⟨k+1,_,by omega,by(try simp only[Sq])<;>norm_cast,hys.snoc rfl,oZ,fC,fK⟩
           case measure=>simp[intOf]<;>omega
          ·
           obtain rfl:k=M:=by omega
           gi_wp2
           refine aK (iR rfl _ _ _) rfl ?_;exact⟨⟨_,rfl⟩,.inl ⟨_,hys.snoc rfl,oZ⟩⟩
         exact cJ
        exact cJ
       refine bD rfl (fun K hK=> ?_) ?_
       ·
        go_simp;refine hK _ _ ?_;clear hK K;try simp only[PL]
        refine cI (rs:=[10,19]) (by kernel_rfl) (by simp) ?_;refine bD rfl (fun K hK=> ?_) ?_
        ·
         go_simp;refine hK _ _ ?_;clear hK K;try simp only[PL]
         refine aS (i:=14) (v:= ?ao9) rfl rfl (by kernel_rfl) (by kernel_rfl) (by kernel_rfl) (fun _ _ _ h=>h) ⟨Or.inl ⟨by rfl, ?Xr⟩,fun _=>rfl⟩ ?aeZ
         case Xr=>intro w;first|(go_simp;done)|(go_simp;with_reducible rfl)
         try simp only[PL]
         refine aS (i:=16) (v:= ?apa) rfl rfl (by kernel_rfl) (by kernel_rfl) (by kernel_rfl) (fun _ _ _ h=>h) ⟨Or.inl ⟨by rfl, ?Xt⟩,fun _=>rfl⟩ ?ae0
         case Xt=>intro w;first|(go_simp;done)|(go_simp;with_reducible rfl)
         try simp only[PL]
         refine cI (rs:=[19]) (by kernel_rfl) (by simp) ?_;refine bD rfl (fun K hK=> ?_) ?_
         ·
          go_simp;refine⟨trivial,fun _=>by omega,(cG.2 (eO F S A n c _ f1 (by omega) (by omega))).mono ?_⟩
          rintro e w4 ⟨rfl,jf⟩
          have fC:au 106 Bs #[.int .i64 F,.int .i64 S,.slice A n c,.int .i64 E,.int .i64 Y] w4:=(jf.block Bs iz.lt).trans iz;obtain⟨k0,k1,k2,k3,k4⟩:=fC.c5;have oZ:=hJ _ _ _ LQ jf;have fK:Below w.heap.size w w4:=eT.trans (jf.mono eT.size)
          gi_wp2_with fail
          refine aS (i:=20) (v:= ?apb) rfl rfl (by kernel_rfl) (by kernel_rfl) (by kernel_rfl) (fun _ _ _ h=>h) ⟨Or.inl ⟨by rfl, ?Xu⟩,fun _=>rfl⟩ ?ae3
          case Xu=>intro w;first|(go_simp;done)|(go_simp;with_reducible rfl)
          try simp only[PL]
          refine aS (i:=21) (v:= ?apc) rfl rfl (by kernel_rfl) (by kernel_rfl) (by kernel_rfl) (fun _ _ _ h=>h) ⟨Or.inl ⟨by rfl, ?Xv⟩,fun _=>rfl⟩ ?ae4
          case Xv=>intro w;first|(go_simp;done)|(go_simp;with_reducible rfl)
          try simp only[PL]
          refine gE (by kernel_rfl) ?_ _
          by_cases wD:k<M
          ·
           have xG:=Cu k wD
           have Ln:¬(F+(n:Int)-1<E+Y+(k:Int)):=by omega
           gi_wp2
           go_roundw
           case rel=>exact⟨k+1,_,by omega,by(try simp only[Sq])<;>norm_cast,hys.snoc rfl,oZ,fC,fK⟩
           case measure=>simp[intOf]<;>omega
          ·
           obtain rfl:k=M:=by omega
           gi_wp2
           refine aK (iR rfl _ _ _) rfl ?_;exact⟨⟨_,rfl⟩,.inl ⟨_,hys.snoc rfl,oZ⟩⟩
         exact cJ
        refine bD rfl (fun K hK=> ?_) ?_
        ·
         go_simp;refine⟨trivial,fun _=>by omega,(cG.2 (eO F S A n c _ f1 (by omega) (by omega))).mono ?_⟩
         rintro e w4 ⟨rfl,jf⟩
         have fC:au 106 Bs #[.int .i64 F,.int .i64 S,.slice A n c,.int .i64 E,.int .i64 Y] w4:=(jf.block Bs iz.lt).trans iz;obtain⟨k0,k1,k2,k3,k4⟩:=fC.c5;have oZ:=hJ _ _ _ LQ jf;have fK:Below w.heap.size w w4:=eT.trans (jf.mono eT.size)
         gi_wp2_with fail
         refine cI (rs:=[10]) (by kernel_rfl) (by simp) ?_;refine bD rfl (fun K hK=> ?_) ?_
         ·
          go_simp;refine hK _ _ ?_;clear hK K;try simp only[PL]
          refine aS (i:=14) (v:= ?apd) rfl rfl (by kernel_rfl) (by kernel_rfl) (by kernel_rfl) (fun _ _ _ h=>h) ⟨Or.inl ⟨by rfl, ?Xw⟩,fun _=>rfl⟩ ?ae5
          case Xw=>intro w;first|(go_simp;done)|(go_simp;with_reducible rfl)
          try simp only[PL]
          refine aS (i:=16) (v:= ?ape) rfl rfl (by kernel_rfl) (by kernel_rfl) (by kernel_rfl) (fun _ _ _ h=>h) ⟨Or.inl ⟨by rfl, ?Xx⟩,fun _=>rfl⟩ ?ae6
          case Xx=>intro w;first|(go_simp;done)|(go_simp;with_reducible rfl)
          try simp only[PL]
          refine aS (i:=20) (v:= ?apf) rfl rfl (by kernel_rfl) (by kernel_rfl) (by kernel_rfl) (fun _ _ _ h=>h) ⟨Or.inl ⟨by rfl, ?Xy⟩,fun _=>rfl⟩ ?ae7
          case Xy=>intro w;first|(go_simp;done)|(go_simp;with_reducible rfl)
          try simp only[PL]
          refine aS (i:=21) (v:= ?apg) rfl rfl (by kernel_rfl) (by kernel_rfl) (by kernel_rfl) (fun _ _ _ h=>h) ⟨Or.inl ⟨by rfl, ?Xz⟩,fun _=>rfl⟩ ?ae8
          case Xz=>intro w;first|(go_simp;done)|(go_simp;with_reducible rfl)
          try simp only[PL]
          refine gE (by kernel_rfl) ?_ _
          by_cases wD:k<M
          ·
           have xG:=Cu k wD
           have Ln:¬(F+(n:Int)-1<E+Y+(k:Int)):=by omega
           gi_wp2
           go_roundw
           case rel=>exact⟨k+1,_,by omega,by(try simp only[Sq])<;>norm_cast,hys.snoc rfl,oZ,fC,fK⟩
           case measure=>simp[intOf]<;>omega
          ·
           obtain rfl:k=M:=by omega
           gi_wp2
           refine aK (iR rfl _ _ _) rfl ?_;exact⟨⟨_,rfl⟩,.inl ⟨_,hys.snoc rfl,oZ⟩⟩
         exact cJ
        exact cJ
       exact cJ
      refine bD rfl (fun K hK=> ?_) ?_
      ·
       go_simp;refine hK _ _ ?_;clear hK K;try simp only[PL]
       refine cI (rs:=[10,13,19]) (by kernel_rfl) (by simp) ?_;refine bD rfl (fun K hK=> ?_) ?_
       ·
        go_simp;refine hK _ _ ?_;clear hK K;try simp only[PL]
        refine cI (rs:=[13,19]) (by kernel_rfl) (by simp) ?_;refine bD rfl (fun K hK=> ?_) ?_
        ·
         go_simp;refine hK _ _ ?_;clear hK K;try simp only[PL]
         refine aS (i:=14) (v:= ?aph) rfl rfl (by kernel_rfl) (by kernel_rfl) (by kernel_rfl) (fun _ _ _ h=>h) ⟨Or.inl ⟨by rfl, ?XA⟩,fun _=>rfl⟩ ?ae9
         case XA=>intro w;first|(go_simp;done)|(go_simp;with_reducible rfl)
         try simp only[PL]
         refine aS (i:=16) (v:= ?apj) rfl rfl (by kernel_rfl) (by kernel_rfl) (by kernel_rfl) (fun _ _ _ h=>h) ⟨Or.inl ⟨by rfl, ?XB⟩,fun _=>rfl⟩ ?afa
         case XB=>intro w;first|(go_simp;done)|(go_simp;with_reducible rfl)
         try simp only[PL]
         refine cI (rs:=[19]) (by kernel_rfl) (by simp) ?_;refine bD rfl (fun K hK=> ?_) ?_
         ·
          go_simp;refine⟨trivial,fun _=>by omega,(cG.2 (eO F S A n c _ f1 (by omega) (by omega))).mono ?_⟩
          rintro e w4 ⟨rfl,jf⟩
          have fC:au 106 Bs #[.int .i64 F,.int .i64 S,.slice A n c,.int .i64 E,.int .i64 Y] w4:=(jf.block Bs iz.lt).trans iz;obtain⟨k0,k1,k2,k3,k4⟩:=fC.c5;have oZ:=hJ _ _ _ LQ jf;have fK:Below w.heap.size w w4:=eT.trans (jf.mono eT.size)
          gi_wp2_with fail
          refine aS (i:=20) (v:= ?apk) rfl rfl (by kernel_rfl) (by kernel_rfl) (by kernel_rfl) (fun _ _ _ h=>h) ⟨Or.inl ⟨by rfl, ?XC⟩,fun _=>rfl⟩ ?afb
          case XC=>intro w;first|(go_simp;done)|(go_simp;with_reducible rfl)
          try simp only[PL]
          refine aS (i:=21) (v:= ?apl) rfl rfl (by kernel_rfl) (by kernel_rfl) (by kernel_rfl) (fun _ _ _ h=>h) ⟨Or.inl ⟨by rfl, ?XD⟩,fun _=>rfl⟩ ?afc
          case XD=>intro w;first|(go_simp;done)|(go_simp;with_reducible rfl)
          try simp only[PL]
          refine gE (by kernel_rfl) ?_ _
          by_cases wD:k<M
          ·
           have xG:=Cu k wD
           have Ln:¬(F+(n:Int)-1<E+Y+(k:Int)):=by omega
           gi_wp2
           go_roundw
           case rel=>exact⟨k+1,_,by omega,by(try simp only[Sq])<;>norm_cast,hys.snoc rfl,oZ,fC,fK⟩
           case measure=>simp[intOf]<;>omega
          ·
           obtain rfl:k=M:=by omega
           gi_wp2
           refine aK (iR rfl _ _ _) rfl ?_;exact⟨⟨_,rfl⟩,.inl ⟨_,hys.snoc rfl,oZ⟩⟩
         exact cJ
        refine bD rfl (fun K hK=> ?_) ?_
        ·
         go_simp;refine⟨trivial,fun _=>by omega,(cG.2 (eO F S A n c _ f1 (by omega) (by omega))).mono ?_⟩
         rintro e w4 ⟨rfl,jf⟩
         have fC:au 106 Bs #[.int .i64 F,.int .i64 S,.slice A n c,.int .i64 E,.int .i64 Y] w4:=(jf.block Bs iz.lt).trans iz;obtain⟨k0,k1,k2,k3,k4⟩:=fC.c5;have oZ:=hJ _ _ _ LQ jf;have fK:Below w.heap.size w w4:=eT.trans (jf.mono eT.size)
         gi_wp2_with fail
         refine cI (rs:=[13]) (by kernel_rfl) (by simp) ?_;refine bD rfl (fun K hK=> ?_) ?_
         ·
          go_simp;refine hK _ _ ?_;clear hK K;try simp only[PL]
          refine aS (i:=14) (v:= ?apm) rfl rfl (by kernel_rfl) (by kernel_rfl) (by kernel_rfl) (fun _ _ _ h=>h) ⟨Or.inl ⟨by rfl, ?XE⟩,fun _=>rfl⟩ ?afd
          case XE=>intro w;first|(go_simp;done)|(go_simp;with_reducible rfl)
          try simp only[PL]
          refine aS (i:=16) (v:= ?apn) rfl rfl (by kernel_rfl) (by kernel_rfl) (by kernel_rfl) (fun _ _ _ h=>h) ⟨Or.inl ⟨by rfl, ?XF⟩,fun _=>rfl⟩ ?afe
          case XF=>intro w;first|(go_simp;done)|(go_simp;with_reducible rfl)
          try simp only[PL]
          refine aS (i:=20) (v:= ?apo) rfl rfl (by kernel_rfl) (by kernel_rfl) (by kernel_rfl) (fun _ _ _ h=>h) ⟨Or.inl ⟨by rfl, ?XG⟩,fun _=>rfl⟩ ?aff
          case XG=>intro w;first|(go_simp;done)|(go_simp;with_reducible rfl)
          try simp only[PL]
          refine aS (i:=21) (v:= ?apq) rfl rfl (by kernel_rfl) (by kernel_rfl) (by kernel_rfl) (fun _ _ _ h=>h) ⟨Or.inl ⟨by rfl, ?XH⟩,fun _=>rfl⟩ ?afg
          case XH=>intro w;first|(go_simp;done)|(go_simp;with_reducible rfl)
          try simp only[PL]
          refine gE (by kernel_rfl) ?_ _
          by_cases wD:k<M
          ·
           have xG:=Cu k wD
           have Ln:¬(F+(n:Int)-1<E+Y+(k:Int)):=by omega
           gi_wp2
           go_roundw
           case rel=>exact⟨k+1,_,by omega,by(try simp only[Sq])<;>norm_cast,hys.snoc rfl,oZ,fC,fK⟩
           case measure=>simp[intOf]<;>omega
          ·
           obtain rfl:k=M:=by omega
           gi_wp2
           refine aK (iR rfl _ _ _) rfl ?_;exact⟨⟨_,rfl⟩,.inl ⟨_,hys.snoc rfl,oZ⟩⟩
         exact cJ
        exact cJ
       refine bD rfl (fun K hK=> ?_) ?_
       ·
        go_simp;refine hK _ _ ?_;clear hK K;try simp only[PL]
        refine cI (rs:=[10,19]) (by kernel_rfl) (by simp) ?_;refine bD rfl (fun K hK=> ?_) ?_
        ·
         go_simp;refine hK _ _ ?_;clear hK K;try simp only[PL]
         refine aS (i:=14) (v:= ?apr) rfl rfl (by kernel_rfl) (by kernel_rfl) (by kernel_rfl) (fun _ _ _ h=>h) ⟨Or.inl ⟨by rfl, ?XI⟩,fun _=>rfl⟩ ?afh
         case XI=>intro w;first|(go_simp;done)|(go_simp;with_reducible rfl)
         try simp only[PL]
         refine aS (i:=16) (v:= ?aps) rfl rfl (by kernel_rfl) (by kernel_rfl) (by kernel_rfl) (fun _ _ _ h=>h) ⟨Or.inl ⟨by rfl, ?XJ⟩,fun _=>rfl⟩ ?afi
         case XJ=>intro w;first|(go_simp;done)|(go_simp;with_reducible rfl)
         try simp only[PL]
         refine cI (rs:=[19]) (by kernel_rfl) (by simp) ?_;refine bD rfl (fun K hK=> ?_) ?_
         ·
          go_simp;refine⟨trivial,fun _=>by omega,(cG.2 (eO F S A n c _ f1 (by omega) (by omega))).mono ?_⟩
          rintro e w4 ⟨rfl,jf⟩
          have fC:au 106 Bs #[.int .i64 F,.int .i64 S,.slice A n c,.int .i64 E,.int .i64 Y] w4:=(jf.block Bs iz.lt).trans iz;obtain⟨k0,k1,k2,k3,k4⟩:=fC.c5;have oZ:=hJ _ _ _ LQ jf;have fK:Below w.heap.size w w4:=eT.trans (jf.mono eT.size)
          gi_wp2_with fail
          refine aS (i:=20) (v:= ?apt) rfl rfl (by kernel_rfl) (by kernel_rfl) (by kernel_rfl) (fun _ _ _ h=>h) ⟨Or.inl ⟨by rfl, ?XK⟩,fun _=>rfl⟩ ?afj
          case XK=>intro w;first|(go_simp;done)|(go_simp;with_reducible rfl)
          try simp only[PL]
          refine aS (i:=21) (v:= ?apu) rfl rfl (by kernel_rfl) (by kernel_rfl) (by kernel_rfl) (fun _ _ _ h=>h) ⟨Or.inl ⟨by rfl, ?XL⟩,fun _=>rfl⟩ ?afk
          case XL=>intro w;first|(go_simp;done)|(go_simp;with_reducible rfl)
          try simp only[PL]
          refine gE (by kernel_rfl) ?_ _
          by_cases wD:k<M
          ·
           have xG:=Cu k wD
           have Ln:¬(F+(n:Int)-1<E+Y+(k:Int)):=by omega
           gi_wp2
           go_roundw
           case rel=>exact⟨k+1,_,by omega,by(try simp only[Sq])<;>norm_cast,hys.snoc rfl,oZ,fC,fK⟩
           case measure=>simp[intOf]<;>omega
          ·
           obtain rfl:k=M:=by omega
           gi_wp2
           refine aK (iR rfl _ _ _) rfl ?_;exact⟨⟨_,rfl⟩,.inl ⟨_,hys.snoc rfl,oZ⟩⟩
         exact cJ
        refine bD rfl (fun K hK=> ?_) ?_
        ·
         go_simp;refine⟨trivial,fun _=>by omega,(cG.2 (eO F S A n c _ f1 (by omega) (by omega))).mono ?_⟩
         rintro e w4 ⟨rfl,jf⟩
         have fC:au 106 Bs #[.int .i64 F,.int .i64 S,.slice A n c,.int .i64 E,.int .i64 Y] w4:=(jf.block Bs iz.lt).trans iz;obtain⟨k0,k1,k2,k3,k4⟩:=fC.c5;have oZ:=hJ _ _ _ LQ jf;have fK:Below w.heap.size w w4:=eT.trans (jf.mono eT.size)
         gi_wp2_with fail
         refine cI (rs:=[10]) (by kernel_rfl) (by simp) ?_;refine bD rfl (fun K hK=> ?_) ?_
         ·
          go_simp;refine hK _ _ ?_;clear hK K;try simp only[PL]
          refine aS (i:=14) (v:= ?apv) rfl rfl (by kernel_rfl) (by kernel_rfl) (by kernel_rfl) (fun _ _ _ h=>h) ⟨Or.inl ⟨by rfl, ?XM⟩,fun _=>rfl⟩ ?afl
          case XM=>intro w;first|(go_simp;done)|(go_simp;with_reducible rfl)
          try simp only[PL]
          refine aS (i:=16) (v:= ?apw) rfl rfl (by kernel_rfl) (by kernel_rfl) (by kernel_rfl) (fun _ _ _ h=>h) ⟨Or.inl ⟨by rfl, ?XO⟩,fun _=>rfl⟩ ?afm
          case XO=>intro w;first|(go_simp;done)|(go_simp;with_reducible rfl)
          try simp only[PL]
          refine aS (i:=20) (v:= ?apx) rfl rfl (by kernel_rfl) (by kernel_rfl) (by kernel_rfl) (fun _ _ _ h=>h) ⟨Or.inl ⟨by rfl, ?XP⟩,fun _=>rfl⟩ ?afn
          case XP=>intro w;first|(go_simp;done)|(go_simp;with_reducible rfl)
          try simp only[PL]
          refine aS (i:=21) (v:= ?apy) rfl rfl (by kernel_rfl) (by kernel_rfl) (by kernel_rfl) (fun _ _ _ h=>h) ⟨Or.inl ⟨by rfl, ?XQ⟩,fun _=>rfl⟩ ?afo
          case XQ=>intro w;first|(go_simp;done)|(go_simp;with_reducible rfl)
          try simp only[PL]
          refine gE (by kernel_rfl) ?_ _
          by_cases wD:k<M
          ·
           have xG:=Cu k wD
           have Ln:¬(F+(n:Int)-1<E+Y+(k:Int)):=by omega
           gi_wp2
           go_roundw
           case rel=>exact⟨k+1,_,by omega,by(try simp only[Sq])<;>norm_cast,hys.snoc rfl,oZ,fC,fK⟩
           case measure=>simp[intOf]<;>omega
          ·
           obtain rfl:k=M:=by omega
           gi_wp2
           refine aK (iR rfl _ _ _) rfl ?_;exact⟨⟨_,rfl⟩,.inl ⟨_,hys.snoc rfl,oZ⟩⟩
         exact cJ
        exact cJ
       refine bD rfl (fun K hK=> ?_) ?_
       ·
        go_simp;refine⟨trivial,fun _=>by omega,(cG.2 (eO F S A n c _ f1 (by omega) (by omega))).mono ?_⟩
        rintro e w4 ⟨rfl,jf⟩
        have fC:au 106 Bs #[.int .i64 F,.int .i64 S,.slice A n c,.int .i64 E,.int .i64 Y] w4:=(jf.block Bs iz.lt).trans iz;obtain⟨k0,k1,k2,k3,k4⟩:=fC.c5;have oZ:=hJ _ _ _ LQ jf;have fK:Below w.heap.size w w4:=eT.trans (jf.mono eT.size)
        gi_wp2_with fail
        refine cI (rs:=[10,13]) (by kernel_rfl) (by simp) ?_;refine bD rfl (fun K hK=> ?_) ?_
        ·
         go_simp;refine hK _ _ ?_;clear hK K;try simp only[PL]
         refine cI (rs:=[13]) (by kernel_rfl) (by simp) ?_;refine bD rfl (fun K hK=> ?_) ?_
         ·
          go_simp;refine hK _ _ ?_;clear hK K;try simp only[PL]
          refine aS (i:=14) (v:= ?apz) rfl rfl (by kernel_rfl) (by kernel_rfl) (by kernel_rfl) (fun _ _ _ h=>h) ⟨Or.inl ⟨by rfl, ?XR⟩,fun _=>rfl⟩ ?afp
          case XR=>intro w;first|(go_simp;done)|(go_simp;with_reducible rfl)
          try simp only[PL]
          refine aS (i:=16) (v:= ?apA) rfl rfl (by kernel_rfl) (by kernel_rfl) (by kernel_rfl) (fun _ _ _ h=>h) ⟨Or.inl ⟨by rfl, ?XS⟩,fun _=>rfl⟩ ?afq
          case XS=>intro w;first|(go_simp;done)|(go_simp;with_reducible rfl)
          try simp only[PL]
          refine aS (i:=20) (v:= ?apB) rfl rfl (by kernel_rfl) (by kernel_rfl) (by kernel_rfl) (fun _ _ _ h=>h) ⟨Or.inl ⟨by rfl, ?XT⟩,fun _=>rfl⟩ ?afr
          case XT=>intro w;first|(go_simp;done)|(go_simp;with_reducible rfl)
          try simp only[PL]
          refine aS (i:=21) (v:= ?apC) rfl rfl (by kernel_rfl) (by kernel_rfl) (by kernel_rfl) (fun _ _ _ h=>h) ⟨Or.inl ⟨by rfl, ?XU⟩,fun _=>rfl⟩ ?afs
          case XU=>intro w;first|(go_simp;done)|(go_simp;with_reducible rfl)
          try simp only[PL]
          refine gE (by kernel_rfl) ?_ _
          by_cases wD:k<M
          ·
           have xG:=Cu k wD
           have Ln:¬(F+(n:Int)-1<E+Y+(k:Int)):=by omega
           gi_wp2
           go_roundw
           case rel=>exact⟨k+1,_,by omega,by(try simp only[Sq])<;>norm_cast,hys.snoc rfl,oZ,fC,fK⟩
           case measure=>simp[intOf]<;>omega
          ·
           obtain rfl:k=M:=by omega
           gi_wp2
           refine aK (iR rfl _ _ _) rfl ?_;exact⟨⟨_,rfl⟩,.inl ⟨_,hys.snoc rfl,oZ⟩⟩
         exact cJ
        refine bD rfl (fun K hK=> ?_) ?_
        ·
         go_simp;refine hK _ _ ?_;clear hK K;try simp only[PL]
         refine cI (rs:=[10]) (by kernel_rfl) (by simp) ?_;refine bD rfl (fun K hK=> ?_) ?_
         ·
          go_simp;refine hK _ _ ?_;clear hK K;try simp only[PL]
          refine aS (i:=14) (v:= ?apD) rfl rfl (by kernel_rfl) (by kernel_rfl) (by kernel_rfl) (fun _ _ _ h=>h) ⟨Or.inl ⟨by rfl, ?XV⟩,fun _=>rfl⟩ ?aft
          case XV=>intro w;first|(go_simp;done)|(go_simp;with_reducible rfl)
          try simp only[PL]
          refine aS (i:=16) (v:= ?apE) rfl rfl (by kernel_rfl) (by kernel_rfl) (by kernel_rfl) (fun _ _ _ h=>h) ⟨Or.inl ⟨by rfl, ?XW⟩,fun _=>rfl⟩ ?afu
          case XW=>intro w;first|(go_simp;done)|(go_simp;with_reducible rfl)
          try simp only[PL]
          refine aS (i:=20) (v:= ?apF) rfl rfl (by kernel_rfl) (by kernel_rfl) (by kernel_rfl) (fun _ _ _ h=>h) ⟨Or.inl ⟨by rfl, ?XX⟩,fun _=>rfl⟩ ?afv
          case XX=>intro w;first|(go_simp;done)|(go_simp;with_reducible rfl)
          try simp only[PL]
          refine aS (i:=21) (v:= ?apG) rfl rfl (by kernel_rfl) (by kernel_rfl) (by kernel_rfl) (fun _ _ _ h=>h) ⟨Or.inl ⟨by rfl, ?XY⟩,fun _=>rfl⟩ ?afw
          case XY=>intro w;first|(go_simp;done)|(go_simp;with_reducible rfl)
          try simp only[PL]
          refine gE (by kernel_rfl) ?_ _
          by_cases wD:k<M
          ·
           have xG:=Cu k wD
           have Ln:¬(F+(n:Int)-1<E+Y+(k:Int)):=by omega
           gi_wp2
           go_roundw
           case rel=>exact⟨k+1,_,by omega,by(try simp only[Sq])<;>norm_cast,hys.snoc rfl,oZ,fC,fK⟩
           case measure=>simp[intOf]<;>omega
          ·
           obtain rfl:k=M:=by omega
           gi_wp2
           refine aK (iR rfl _ _ _) rfl ?_;exact⟨⟨_,rfl⟩,.inl ⟨_,hys.snoc rfl,oZ⟩⟩
         exact cJ
        exact cJ
       exact cJ
      exact cJ
     ·
      gi_wp2_with fail
      refine aS (i:=6) (v:= ?aq3) rfl rfl (by kernel_rfl) (by kernel_rfl) (by kernel_rfl) (fun _ _ _ h=>h) ⟨Or.inl ⟨by rfl, ?adW⟩,fun _=>rfl⟩ ?aiP
      case adW=>intro w;first|(go_simp;done)|(go_simp;with_reducible rfl)
      try simp only[PL]
      refine aS (i:=7) (v:= ?aq4) rfl rfl (by kernel_rfl) (by kernel_rfl) (by kernel_rfl) (fun _ _ _ h=>h) ⟨Or.inl ⟨by rfl, ?adX⟩,fun _=>rfl⟩ ?aiQ
      case adX=>intro w;first|(go_simp;done)|(go_simp;with_reducible rfl)
      try simp only[PL]
      refine aS (i:=8) (v:=undef) rfl rfl (by kernel_rfl) (by kernel_rfl) (by kernel_rfl) (fun _ _ _ h=>h) ⟨Or.inr ⟨by rfl,rfl⟩,fun _=>rfl⟩ ?_;try simp only[PL]
      refine aS (i:=9) (v:=undef) rfl rfl (by kernel_rfl) (by kernel_rfl) (by kernel_rfl) (fun _ _ _ h=>h) ⟨Or.inr ⟨by rfl,rfl⟩,fun _=>rfl⟩ ?_;try simp only[PL]
      refine aS (i:=10) (v:=undef) rfl rfl (by kernel_rfl) (by kernel_rfl) (by kernel_rfl) (fun _ _ _ h=>h) ⟨Or.inr ⟨by rfl,rfl⟩,fun _=>rfl⟩ ?_;try simp only[PL]
      refine aS (i:=11) (v:=undef) rfl rfl (by kernel_rfl) (by kernel_rfl) (by kernel_rfl) (fun _ _ _ h=>h) ⟨Or.inr ⟨by rfl,rfl⟩,fun _=>rfl⟩ ?_;try simp only[PL]
      refine aS (i:=12) (v:=undef) rfl rfl (by kernel_rfl) (by kernel_rfl) (by kernel_rfl) (fun _ _ _ h=>h) ⟨Or.inr ⟨by rfl,rfl⟩,fun _=>rfl⟩ ?_;try simp only[PL]
      refine aS (i:=13) (v:=undef) rfl rfl (by kernel_rfl) (by kernel_rfl) (by kernel_rfl) (fun _ _ _ h=>h) ⟨Or.inr ⟨by rfl,rfl⟩,fun _=>rfl⟩ ?_;try simp only[PL]
      refine aS (i:=14) (v:=undef) rfl rfl (by kernel_rfl) (by kernel_rfl) (by kernel_rfl) (fun _ _ _ h=>h) ⟨Or.inr ⟨by rfl,rfl⟩,fun _=>rfl⟩ ?_;try simp only[PL]
      refine aS (i:=15) (v:=undef) rfl rfl (by kernel_rfl) (by kernel_rfl) (by kernel_rfl) (fun _ _ _ h=>h) ⟨Or.inr ⟨by rfl,rfl⟩,fun _=>rfl⟩ ?_;try simp only[PL]
      refine aS (i:=16) (v:=undef) rfl rfl (by kernel_rfl) (by kernel_rfl) (by kernel_rfl) (fun _ _ _ h=>h) ⟨Or.inr ⟨by rfl,rfl⟩,fun _=>rfl⟩ ?_;try simp only[PL]
      refine aS (i:=17) (v:=undef) rfl rfl (by kernel_rfl) (by kernel_rfl) (by kernel_rfl) (fun _ _ _ h=>h) ⟨Or.inr ⟨by rfl,rfl⟩,fun _=>rfl⟩ ?_;try simp only[PL]
      refine aS (i:=18) (v:=undef) rfl rfl (by kernel_rfl) (by kernel_rfl) (by kernel_rfl) (fun _ _ _ h=>h) ⟨Or.inr ⟨by rfl,rfl⟩,fun _=>rfl⟩ ?_;try simp only[PL]
      refine cI (rs:=[19]) (by kernel_rfl) (by simp) ?_;refine bD rfl (fun K hK=> ?_) ?_
      ·
       go_simp;refine⟨trivial,hK _ _ ?_⟩;clear hK K;try simp only[PL]
       refine aS (i:=20) (v:=undef) rfl rfl (by kernel_rfl) (by kernel_rfl) (by kernel_rfl) (fun _ _ _ h=>h) ⟨Or.inr ⟨by rfl,rfl⟩,fun _=>rfl⟩ ?_;try simp only[PL]
       refine aS (i:=21) (v:= ?apH) rfl rfl (by kernel_rfl) (by kernel_rfl) (by kernel_rfl) (fun _ _ _ h=>h) ⟨Or.inl ⟨by rfl, ?XZ⟩,fun _=>rfl⟩ ?afx
       case XZ=>intro w;first|(go_simp;done)|(go_simp;with_reducible rfl)
       try simp only[PL]
       refine gE (by kernel_rfl) ?_ _
       gi_wp2
       refine aK (iR rfl _ _ _) rfl ?_;exact⟨⟨_,rfl⟩,.inr ⟨_,⟨k+1,by omega,hys.snoc rfl⟩,adT⟩⟩
      exact cJ
    exact cJ
   exact cJ
  exact cJ

theorem Sr (m:Nat)(F S E Y:Int)(A:Option Addr)(n c:Nat)(w:World):
  CallsIn Fence.wide m Tryz.prog 178 #[.agg #[.int .i64 F,.int .i64 S,.slice A n c,.int .i64 E,.int .i64 Y]] w fun e w'=>
   e= .returned (.func (.func 186) #[] #[.pointer (some ⟨w.heap.size,0,none⟩)])/\w'=w.alloc (.cells #[.int .i64 F,.int .i64 S,.slice A n c,.int .i64 E,.int .i64 Y] 106):=by
 have hro:Fence.wide.round=none:=rfl;refine callsIn_of_wp Tryz.func178 rfl trivial ?_ hro;simp only[Tryz.ntmps178,List.size_toArray,List.length_cons,List.length_nil,Nat.reduceAdd,Nat.reduceSub,Array.replicate_succ,Array.replicate_zero,List.push_toArray,List.append_toArray,List.nil_append,List.cons_append]
 gi_wp2
 go_ret
 exact⟨rfl,rfl⟩

theorem sQ {β:Type}{B:Nat}{J:β->World->Prop}(h:AbidesFrom B J){s:β}{W W':World}(hs:J s W)(hb:Below W.heap.size W W'):J s W':=
 h s W W' none hs ⟨hb.os,hb.tape,hb.output,hb.size,fun k hk _=>hb.block k hk⟩ (fun _ e=>by cases e)

theorem LS (m:Nat)(hm:2<=m)(Bs n₀:Nat){F S E Y:Int}{A:Option Addr}{n c:Nat}{r:Nat->RH}{w:World}(hn₀:w.heap.size<=n₀)(hT:eZ w A n r)(hR:dH F S n r E Y)(M:Nat)(hM:M<=1000)(Cu:∀k:Nat,k<M->E+Y+(k:Int)<=F+(n:Int)-1)(hMb:F+(n:Int)-1<E+Y+(M:Int))
  (w0:World) (hb0:Below w.heap.size w w0) (Hf:au 106 Bs #[.int .i64 F,.int .i64 S,.slice A n c,.int .i64 E,.int .i64 Y] w0):
  aiz Fence.wide m Tryz.prog 186 #[.pointer (some ⟨Bs,0,none⟩)] Yr.vals (uB n₀ Bs) (Yr.fit (fun k=>rt F S n r E Y (k:Int)))
   (fun ys=>JV ys (M+1)) (fun pre=>∃j,j<=M+1/\JV pre j) (M+1) w0:=fun l J Jx W hW hJ _ hY h0=>
 LP m hm l Bs n₀ hn₀ hT hR M hM Cu hMb J Jx (fun _ _ _ hs hb=>sQ hJ hs hb) hY W (Hf.below hW Hf.lt) (hb0.trans (hW.mono hb0.size)) h0
end Go.Proofs.YtclbiihcbfnjmaaGreat
