/-
  Parts.
-/
import Derived.Test.YtclbiihcbfnjmaaGreatEY
set_option maxRecDepth 100000
namespace Go.Proofs.YtclbiihcbfnjmaaGreat
open Go.ChangeShapes Go.WideShapes Go.ChangeAt Go.RowKit Go.Deep

theorem Is : Tryz.prog.cellsOf 72=12:=by kernel_rfl
theorem YT : Tryz.prog.cellsOf 65=1:=by kernel_rfl
theorem aj1 : Tryz.prog.cellsOf 67=19:=by kernel_rfl
theorem aeB {α:Type}{l:List α}(h:l.length=12):∃a0 a1 a2 a3 a4 a5 a6 a7 a8 a9 a10 a11,l=[a0,a1,a2,a3,a4,a5,a6,a7,a8,a9,a10,a11]:=by
 match l,h with
 |[a0,a1,a2,a3,a4,a5,a6,a7,a8,a9,a10,a11],_=>exact⟨a0,a1,a2,a3,a4,a5,a6,a7,a8,a9,a10,a11,rfl⟩
theorem aeC {α:Type}{l:List α}(h:l.length=19):∃a0 a1 a2 a3 a4 a5 a6 a7 a8 a9 a10 a11 a12 a13 a14 a15 a16 a17 a18,l=[a0,a1,a2,a3,a4,a5,a6,a7,a8,a9,a10,a11,a12,a13,a14,a15,a16,a17,a18]:=by
 match l,h with
 |[a0,a1,a2,a3,a4,a5,a6,a7,a8,a9,a10,a11,a12,a13,a14,a15,a16,a17,a18],_=>exact⟨a0,a1,a2,a3,a4,a5,a6,a7,a8,a9,a10,a11,a12,a13,a14,a15,a16,a17,a18,rfl⟩
theorem aaB {α:Type}{l:List α}(h:l.length=4):∃a0 a1 a2 a3,l=[a0,a1,a2,a3]:=by
 match l,h with
 |[a0,a1,a2,a3],_=>exact⟨a0,a1,a2,a3,rfl⟩
theorem aj2 {α:Type}{l:List α}(h:l.length=7):∃a0 a1 a2 a3 a4 a5 a6,l=[a0,a1,a2,a3,a4,a5,a6]:=by
 match l,h with
 |[a0,a1,a2,a3,a4,a5,a6],_=>exact⟨a0,a1,a2,a3,a4,a5,a6,rfl⟩
theorem aj3 {α:Type}{l:List α}(h:l.length=2):∃a0 a1,l=[a0,a1]:=by
 match l,h with
 |[a0,a1],_=>exact⟨a0,a1,rfl⟩
section
variable {H:Type} {enc:TypeId×Value->H} {W:World}
theorem um {fuel:Nat}{cs:List Value}{x:DataW H×List MemPlace}(h:DataW.trod enc Tryz.prog W 0 (fun _=>true) true fuel 31 cs=some x):
  ∃b:Bh,cs=[.int .i64 b.F,.int .i64 b.S,.slice b.A b.n b.c,.bool b.i.s,.slice b.i.A b.i.n b.i.c,.bool b.i.t,.slice b.i.B b.i.m b.i.d]/\b.rd W:=by
 obtain⟨xs,k,-,-,hl,hx,hi⟩:=nk Tryz.underlying31 h;obtain⟨c0,c1,c2,c3,c4,c5,c6,rfl⟩:=aj2 (hl.trans Hh);obtain⟨x0,x1,rfl⟩:=aj3 hx;have h0:DataW.trod enc Tryz.prog W 0 (fun _=>true) true k 24 (([c0,c1,c2,c3,c4,c5,c6].drop 0).take (Tryz.prog.cellsOf 24))=some x0:=hi 0 _ rfl;have h1:DataW.trod enc Tryz.prog W 0 (fun _=>true) true k 29 (([c0,c1,c2,c3,c4,c5,c6].drop 3).take (Tryz.prog.cellsOf 29))=some x1:=hi 1 _ rfl;rw[GZ] at h0;rw[wC] at h1;simp only[List.drop_zero,List.take_succ_cons,List.take_zero,List.drop_succ_cons] at h0 h1;obtain⟨F,S,A,n,c,r,e0,hT⟩:=ua h0;obtain⟨q,e1,hq⟩:=fO h1;simp only[List.cons.injEq,and_true] at e0 e1;obtain⟨rfl,rfl,rfl⟩:=e0;obtain⟨rfl,rfl,rfl,rfl⟩:=e1;exact⟨⟨F,S,A,n,c,r,q⟩,rfl,hT,hq⟩
theorem uo {fuel:Nat}{cs:List Value}{x:DataW H×List MemPlace}(h:DataW.trod enc Tryz.prog W 0 (fun _=>true) true fuel 72 cs=some x):
  ∃g:Gr,cs=g.C/\g.x.rd W/\g.i:=by
 obtain⟨xs,k,-,-,hl,hx,hi⟩:=nk Tryz.underlying72 h;obtain⟨c0,c1,c2,c3,c4,c5,c6,c7,c8,c9,cB,YU,rfl⟩:=aeB (hl.trans Is);obtain⟨x0,x1,x2,x3,rfl⟩:=aaB hx;have h0:DataW.trod enc Tryz.prog W 0 (fun _=>true) true k 36 (([c0,c1,c2,c3,c4,c5,c6,c7,c8,c9,cB,YU].drop 0).take (Tryz.prog.cellsOf 36))=some x0:=hi 0 _ rfl;have h1:DataW.trod enc Tryz.prog W 0 (fun _=>true) true k 3 (([c0,c1,c2,c3,c4,c5,c6,c7,c8,c9,cB,YU].drop 9).take (Tryz.prog.cellsOf 3))=some x1:=hi 1 _ rfl;have h2:DataW.trod enc Tryz.prog W 0 (fun _=>true) true k 3 (([c0,c1,c2,c3,c4,c5,c6,c7,c8,c9,cB,YU].drop 10).take (Tryz.prog.cellsOf 3))=some x2:=hi 2 _ rfl;have h3:DataW.trod enc Tryz.prog W 0 (fun _=>true) true k 3 (([c0,c1,c2,c3,c4,c5,c6,c7,c8,c9,cB,YU].drop 11).take (Tryz.prog.cellsOf 3))=some x3:=hi 3 _ rfl;rw[yT] at h0;rw[Su] at h1 h2 h3;simp only[List.drop_zero,List.take_succ_cons,List.take_zero,List.drop_succ_cons] at h0 h1 h2 h3;obtain⟨q,e0,hq,hT,-,-⟩:=uc h0;obtain⟨t,e1,-,w1⟩:=kL Tryz.underlying3 h1;obtain⟨a,e2,-,w2⟩:=kL Tryz.underlying3 h2;obtain⟨d,e3,-,w3⟩:=kL Tryz.underlying3 h3;simp only[Ct.cells,List.cons.injEq,and_true] at e0 e1 e2 e3;obtain⟨rfl,rfl,rfl,rfl,rfl,rfl,rfl,rfl,rfl⟩:=e0;subst e1 e2 e3;exact⟨⟨q,t,a,d⟩,rfl,hq,BS w1,BS w2,BS w3,hT⟩
theorem Fx {fuel:Nat}{cs:List Value}{x:DataW H×List MemPlace}(h:DataW.trod enc Tryz.prog W 0 (fun _=>true) true fuel 65 cs=some x):
  ∃A n c r,cs=[.slice A n c]/\DN A n r W/\(∀k,k<n->(r k).i)/\n<=9223372036854775807/\n<=c:=by
 rcases open_slice Tryz.underlying65 h with⟨e,-⟩|⟨a,len,cap,m,k,D,Pl,e,-,hlc,hcm,hm,-,hx⟩
 ·exact⟨none,0,0,fun _=>default,e,DN.nil _ _ _,fun k hk=>absurd hk (nY k),bF _,aq _⟩
 ·
  replace hm:m=cap:=by simpa using hm
  have hsp:0<len->∃b o,a=⟨b,o,none⟩:=fun h0=>by
   obtain⟨cs',h1,h2⟩:=hx 0 (by omega);rw[Is] at h1;obtain⟨q,rfl,hq⟩:=uo h2;obtain⟨-,-,hc⟩:=World.cells?_some h1;have c0:=hc 0 (by omega);obtain⟨b,o,spot⟩:=a
   have hs:spot=none:=by simpa [Addr.add] using World.cell?_spot c0
   exact⟨b,o,by rw[hs]⟩
  have each:∀i,i<len->∃q:Gr,(∃b o,a=⟨b,o,none⟩/\b<W.heap.size/\W.rangeAt b (o+i*12) q.C)/\q.x.rd W/\q.i:=fun i hi=>by
   obtain⟨b,o,rfl⟩:=hsp (by omega);obtain⟨cs',h1,h2⟩:=hx i (by omega);rw[Is,oC] at h1;obtain⟨q,rfl,hq,hi⟩:=uo h2;obtain⟨-,-,hc⟩:=World.cells?_some h1
   have hr:W.rangeAt b (o+i*12) q.C:=fun j v hv=>by
    have hj:j<12:=(mM.1 hv).1;have c:=hc j hj;rw[oC] at c;exact c.trans hv
   exact⟨q,⟨b,o,rfl,rF (hr 0 _ rfl),hr⟩,hq,hi⟩
  obtain⟨r,hh⟩:=choose_lt each;refine⟨some a,len,cap,r,e,fun h0=> ?_,fun i hi=>(hh i hi).2.2,ay (ay hlc hcm) (by decide),hlc⟩;obtain⟨⟨b,o,rfl,hb,-⟩,-⟩:=hh 0 h0;refine⟨b,o,rfl,hb,fun i hi=> ?_⟩;obtain⟨⟨b',o',e,-,hc⟩,hr,-⟩:=hh i hi
  cases e
  exact⟨hc,hr⟩
theorem afz {b0:Nat}{v:Value}{d:DataW H}{p:List MemPlace}(hv:Value.okWide Tryz.prog W .any b0 67 v)(h:DataW.Trod enc Tryz.prog W 0 (fun _=>true) true 67 v d p):
  ∃y:Yh,v= .agg y.C.toArray/\y.rd W/\y.i/\y.n<=9223372036854775807/\y.n<=y.c:=by
 obtain⟨cs,rfl,-⟩:=okWide_struct Tryz.underlying67 hv;obtain⟨fuel,hf⟩:=h;have hf2:DataW.trod enc Tryz.prog W 0 (fun _=>true) true fuel 67 cs.toList=some (d,p):=hf;obtain⟨xs,k,-,-,hl,hx,hi⟩:=nk Tryz.underlying67 hf2;obtain⟨c0,c1,c2,c3,c4,c5,c6,c7,c8,c9,cB,YU,c12,c13,c14,c15,c16,c17,c18,hcs⟩:=aeC (hl.trans aj1);obtain⟨x0,x1,x2,x3,rfl⟩:=aaB hx;rw[hcs] at hi;have h0:DataW.trod enc Tryz.prog W 0 (fun _=>true) true k 31 (([c0,c1,c2,c3,c4,c5,c6,c7,c8,c9,cB,YU,c12,c13,c14,c15,c16,c17,c18].drop 0).take (Tryz.prog.cellsOf 31))=some x0:=hi 0 _ rfl;have h1:DataW.trod enc Tryz.prog W 0 (fun _=>true) true k 31 (([c0,c1,c2,c3,c4,c5,c6,c7,c8,c9,cB,YU,c12,c13,c14,c15,c16,c17,c18].drop 7).take (Tryz.prog.cellsOf 31))=some x1:=hi 1 _ rfl;have h2:DataW.trod enc Tryz.prog W 0 (fun _=>true) true k 29 (([c0,c1,c2,c3,c4,c5,c6,c7,c8,c9,cB,YU,c12,c13,c14,c15,c16,c17,c18].drop 14).take (Tryz.prog.cellsOf 29))=some x2:=hi 2 _ rfl;have h3:DataW.trod enc Tryz.prog W 0 (fun _=>true) true k 65 (([c0,c1,c2,c3,c4,c5,c6,c7,c8,c9,cB,YU,c12,c13,c14,c15,c16,c17,c18].drop 18).take (Tryz.prog.cellsOf 65))=some x3:=hi 3 _ rfl;rw[Hh] at h0 h1;rw[wC] at h2;rw[YT] at h3;simp only[List.drop_zero,List.take_succ_cons,List.take_zero,List.drop_succ_cons] at h0 h1 h2 h3;obtain⟨b,e0,hb⟩:=um h0;obtain⟨b2,e1,eS⟩:=um h1;obtain⟨q,e2,hq⟩:=fO h2;obtain⟨A,n,c,r,e3,hr,hii,aqq,hnc⟩:=Fx h3;simp only[List.cons.injEq,and_true] at e0 e1 e2 e3;obtain⟨rfl,rfl,rfl,rfl,rfl,rfl,rfl⟩:=e0;obtain⟨rfl,rfl,rfl,rfl,rfl,rfl,rfl⟩:=e1;obtain⟨rfl,rfl,rfl,rfl⟩:=e2;subst e3;exact⟨⟨b,b2,q,A,n,c,r⟩,by rw[show cs=_ from Array.toList_inj.1 hcs],⟨hb,eS,hq,hr⟩,hii,aqq,hnc⟩
theorem qc {b0:Nat}{v:Value}{d:DataW H}{p:List MemPlace}(hv:Value.okWide Tryz.prog W .any b0 29 v)(h:DataW.Trod enc Tryz.prog W 0 (fun _=>true) true 29 v d p):
  ∃q:FH,v= .agg (az q.s q.A q.n q.c q.t q.B q.m q.d)/\q.rd W:=by
 obtain⟨cs,rfl,-⟩:=okWide_struct Tryz.underlying29 hv;obtain⟨fuel,hf⟩:=h;have hf2:DataW.trod enc Tryz.prog W 0 (fun _=>true) true fuel 29 cs.toList=some (d,p):=hf;obtain⟨q,e,hq⟩:=fO hf2;exact⟨q,by rw[show cs=_ from Array.toList_inj.1 e],hq⟩
end
end Go.Proofs.YtclbiihcbfnjmaaGreat
