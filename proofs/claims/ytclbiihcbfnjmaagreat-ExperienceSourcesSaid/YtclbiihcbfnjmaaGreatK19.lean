/-
  Parts.
-/
import Derived.Test.YtclbiihcbfnjmaaGreatK18
import Derived.Test.YtclbiihcbfnjmaaGreatK13
set_option linter.unusedSimpArgs false
set_option maxRecDepth 100000
set_option maxHeartbeats 4000000
namespace Go.Proofs.YtclbiihcbfnjmaaGreat
section
open Go.RowKit

theorem yR (b j:Nat):(⟨b,0,none⟩:Addr).add j=⟨b,j,none⟩:=by
 unfold Addr.add
 simp
 exact fun h=>h.symm
structure Q8 where
 s:Bool
 A:Option Addr
 n:Nat
 c:Nat
 t:Bool
 B:Option Addr
 m:Nat
 d:Nat
def Q8.cell (x:Q8):Nat->Value
 |0=> .bool x.s
 |1=> .slice x.A x.n x.c
 |2=> .bool x.t
 |_=> .slice x.B x.m x.d
def Q8.fv (x:Q8)(W:World)(q:Rat):Prop:=FV W q x.s x.A x.n x.t x.B x.m
def Q8.z :Q8:=⟨false,none,0,0,false,none,0,0⟩
theorem Q8.KA (x:Q8)(i:Nat):aP (x.cell i)=true:=by unfold Q8.cell;split<;>rfl
def fP (x:Nat->Q8):List Value:=(List.range 24).map (fun i=>(x (i/4)).cell (i%4))
theorem fT (x:Nat->Q8):(fP x).length=24:=by simp[fP]
theorem wH (x:Nat->Q8){i:Nat}(h:i<24):(fP x)[i]?=some ((x (i/4)).cell (i%4)):=by
 unfold fP;rw[List.getElem?_map,List.getElem?_range h];rfl
theorem EI {x:Nat->Q8}{u:Value}(h:u∈fP x):∃y:Q8,∃i,u=y.cell i:=by
 unfold fP at h;obtain⟨i,_,rfl⟩:=List.mem_map.1 h;exact⟨_,_,rfl⟩
def cW (g n cap:Nat)(P:Nat->Nat->Nat->Value)(W:World):Prop:=
 n<=cap/\cap<=maxLen/\∃cs:Array Value,au 98 g cs W/\cs.size=cap*24/\(∀(i:Nat) (v:Value),cs[i]?=some v->aP v=true)/\
  ∀k,k<n->∀j,j<6->∀i,i<4->cs[k*24+(j*4+i)]?=some (P k j i)
def gO (g n cap:Nat)(h:Nat->Nat->Q8):World->Prop:=cW g n cap (fun k j i=>(h k j).cell i)
section
variable {w w' W:World} {g n cap B:Nat} {P:Nat->Nat->Nat->Value} {h:Nat->Nat->Q8}
theorem vP {cs:Array Value}(h:∀(i:Nat) (v:Value),cs[i]?=some v->aP v=true):cs.toList.all aP=true:=
 jZ.2 fun v hv=>by
  obtain⟨i,hi⟩:=List.getElem?_of_mem hv;exact h i v (by simpa using hi)
theorem cW.lt (h:cW g n cap P W):g<W.heap.size:=by obtain⟨_,_,cs,hb,_⟩:=h;exact hb.lt
theorem cW.at_ (h:cW g n cap P W){k j i:Nat}(hk:k<n)(hj:j<6)(hi:i<4):W.cell? ⟨g,k*24+(j*4+i),none⟩=some (P k j i):=by
 obtain⟨_,_,cs,hb,_,_,hc⟩:=h;rw[hb.cell];exact hc k hk j hj i hi
theorem cW.frozen (h:cW g n cap P W)(i:Nat):W.frozen? ⟨g,i,none⟩=false:=by obtain⟨_,_,cs,hb,_⟩:=h;exact hb.frozen i
theorem cW.stable (g n cap:Nat)(P:Nat->Nat->Nat->Value):ck (cW g n cap P):=fun _ _ hb ⟨h1,h2,cs,h3,h4⟩=>⟨h1,h2,cs,h3.below hb h3.lt,h4⟩
theorem cW.below (h:cW g n cap P w)(hb:Below w.heap.size w w'):cW g n cap P w':=cW.stable _ _ _ _ _ _ hb h
theorem cW.congr {P':Nat->Nat->Nat->Value}(h:cW g n cap P W)(e:∀k,k<n->∀j,j<6->∀i,i<4->P k j i=P' k j i):cW g n cap P' W:=by
 obtain⟨h1,h2,cs,h3,h4,h5,h6⟩:=h;exact⟨h1,h2,cs,h3,h4,h5,fun k hk j hj i hi=>by rw[h6 k hk j hj i hi,e k hk j hj i hi]⟩
theorem cW.set (h:cW g n cap P W){k j i:Nat}(hk:k<n)(hj:j<6)(hi:i<4){u:Value}(hu:aP u=true):
  cW g n cap (fun k' j' i'=>if k'=k/\j'=j/\i'=i then u else P k' j' i') (W.setCell ⟨g,k*24+(j*4+i),none⟩ u):=by
 obtain⟨h1,h2,cs,h3,h4,h5,h6⟩:=h;refine⟨h1,h2,_,h3.dZ _ u,by rw[Array.size_setIfInBounds,h4],fun a v hv=> ?_,fun k' hk' j' hj' i' hi'=> ?_⟩
 ·
  rw[sH] at hv
  split at hv
  ·
   split at hv
   ·cases hv;exact hu
   ·cases hv
  ·exact h5 a v hv
 ·
  rw[sH]
  by_cases e:k'=k/\j'=j/\i'=i
  ·
   obtain⟨rfl,rfl,rfl⟩:=e;rw[if_pos rfl,if_pos (by omega)]
   dsimp only
   rw[if_pos ⟨rfl,rfl,rfl⟩]
  ·
   dsimp only
   rw[if_neg (by omega),if_neg e,h6 k' hk' j' hj' i' hi']
theorem FV.Ye {q:Rat}{s t:Bool}{A C:Option Addr}{a b:Nat}(hf:FV W q s A a t C b)(h:cW g n cap P W)(i:Nat)(u:Value):FV (W.setCell ⟨g,i,none⟩ u) q s A a t C b:=by
 obtain⟨_,_,cs,h3,_,h5,_⟩:=h;exact hf.sep h3 (vP h5) u
def Zg (h:Nat->Nat->Q8)(k j:Nat)(x:Q8):Nat->Nat->Q8:=fun k' j'=>if k'=k/\j'=j then x else h k' j'
def cQ (W:World)(g o:Nat)(x:Q8):World:=(((W.setCell ⟨g,o,none⟩ (.bool x.s)).setCell ⟨g,o+1,none⟩ (.slice x.A x.n x.c)).setCell ⟨g,o+2,none⟩ (.bool x.t)).setCell ⟨g,o+3,none⟩ (.slice x.B x.m x.d)
theorem gO.set (hB:gO g n cap h W){k j:Nat}(hk:k<n)(hj:j<6)(x:Q8):gO g n cap (Zg h k j x) (cQ W g (k*24+j*4) x):=by
 have h0:=cW.set hB hk hj (show 0<4 by decide) (Q8.KA x 0);have h1:=cW.set h0 hk hj (show 1<4 by decide) (Q8.KA x 1);have h2:=cW.set h1 hk hj (show 2<4 by decide) (Q8.KA x 2);have h3:=cW.set h2 hk hj (show 3<4 by decide) (Q8.KA x 3)
 refine cW.congr h3 fun k' _ j' _ i' hi'=> ?_
 unfold Zg
 by_cases e:k'=k/\j'=j
 ·
  obtain⟨rfl,rfl⟩:=e
  obtain rfl|rfl|rfl|rfl:i'=0\/i'=1\/i'=2\/i'=3:=by omega
  all_goals simp
 ·
  have hh:∀a,¬(k'=k/\j'=j/\i'=a):=fun a ha=>e ⟨ha.1,ha.2.1⟩
  simp only[if_neg (hh _),if_neg e]
theorem FV.cQ {q:Rat}{s t:Bool}{A C:Option Addr}{a b:Nat}(hf:FV W q s A a t C b)(hB:gO g n cap h W){k j:Nat}(hk:k<n)(hj:j<6)(x:Q8):FV (Go.Proofs.YtclbiihcbfnjmaaGreat.cQ W g (k*24+j*4) x) q s A a t C b:=by
 have h0:=cW.set hB hk hj (show 0<4 by decide) (Q8.KA x 0);have h1:=cW.set h0 hk hj (show 1<4 by decide) (Q8.KA x 1);have h2:=cW.set h1 hk hj (show 2<4 by decide) (Q8.KA x 2);exact(((hf.Ye hB _ _).Ye h0 _ _).Ye h1 _ _).Ye h2 _ _
theorem au.cQ {t:TypeId}{b:Nat}{cs:Array Value}(hb:au t b cs W)(hne:b≠g)(o:Nat)(x:Q8):au t b cs (Go.Proofs.YtclbiihcbfnjmaaGreat.cQ W g o x):=
 (((hb.far (p:=⟨g,_,none⟩) hne _).far (p:=⟨g,_,none⟩) hne _).far (p:=⟨g,_,none⟩) hne _).far (p:=⟨g,_,none⟩) hne _
theorem au.mB {t:TypeId}{b:Nat}{cs:Array Value}(hb:au t b cs W)(hB:cW g n cap P W)(ht:t≠ 98):b≠g:=fun e=>by
 obtain⟨_,_,cs',h3,_⟩:=hB;subst e;have:=kC (hb.symm.trans h3)
 injection this with _ e2 _
 exact ht e2
theorem Below.cQ {w:World}(hb:Below B w W)(hg:B<=g)(o:Nat)(x:Q8):Below B w (Go.Proofs.YtclbiihcbfnjmaaGreat.cQ W g o x):=
 (((hb.setCell (p:=⟨g,_,none⟩) hg _).setCell (p:=⟨g,_,none⟩) hg _).setCell (p:=⟨g,_,none⟩) hg _).setCell (p:=⟨g,_,none⟩) hg _
end
def fY (b0:Nat)(v:Value)(n:Nat)(h:Nat->Nat->Q8)(W:World):Prop:=(v= .slice none 0 0/\n=0)\/∃g cap,v= .slice (some ⟨g,0,none⟩) n cap/\b0<=g/\gO g n cap h W
section
variable {w w' W:World} {b0 n B:Nat} {v:Value} {h:Nat->Nat->Q8}
theorem fY.stable (b0:Nat)(v:Value)(n:Nat)(h:Nat->Nat->Q8):ck (fY b0 v n h):=fun _ _ hb hv=>by
 rcases hv with hv|⟨g,cap,e,hg,hB⟩
 ·exact .inl hv
 ·exact .inr ⟨g,cap,e,hg,cW.stable _ _ _ _ _ _ hb hB⟩
theorem yS {b o:Nat}(e:w'.heap[b]?=w.heap[b]?):w'.cell? ⟨b,o,none⟩=w.cell? ⟨b,o,none⟩:=by simp only[World.cell?,e]
theorem Rd.aQ {A:Option Addr}{m:Nat}{f:Nat->Nat}(hr:Rd w.heap.size .u16 w A m f)(hv:fY b0 v n h w)(hg:w.grownBy w' v.ownBlock):Rd w'.heap.size .u16 w' A m f:=fun h0=>by
 obtain⟨b,o,e,hb,hc⟩:=hr h0;refine⟨b,o,e,bY hb hg.size,fun i hi=> ?_⟩;have h1:=hc i hi;rw[yS (hg.block b hb fun e2=> ?_)]
 ·exact h1
 ·
  rcases hv with⟨rfl,_⟩|⟨g,cap,rfl,_,hB⟩
  ·cases e2
  ·
   obtain rfl:b=g:=by simpa [Value.ownBlock] using e2
   obtain⟨_,_,cs,h3,_,h5,_⟩:=hB;rw[h3.cell] at h1;exact absurd (h5 _ _ h1) (by simp[aP])
theorem WV.aQ {z:Int}{s:Bool}{A:Option Addr}{m:Nat}(hw:WV w z s A m)(hv:fY b0 v n h w)(hg:w.grownBy w' v.ownBlock):WV w' z s A m:=⟨hw.1,hw.2.1,Rd.aQ hw.2.2 hv hg⟩
theorem FV.aQ {q:Rat}{s t:Bool}{A C:Option Addr}{a b:Nat}(hf:FV w q s A a t C b)(hv:fY b0 v n h w)(hg:w.grownBy w' v.ownBlock):FV w' q s A a t C b:=⟨hf.1.aQ hv hg,hf.2.aQ hv hg⟩
theorem au.aQ {t:TypeId}{b:Nat}{cs:Array Value}(hb:au t b cs w)(hv:fY b0 v n h w)(hg:w.grownBy w' v.ownBlock)(ht:t≠ 98):au t b cs w':=by
 refine(hg.block b hb.lt fun e2=> ?_).trans hb
 rcases hv with⟨rfl,_⟩|⟨g,cap,rfl,_,hB⟩
 ·cases e2
 ·
  obtain rfl:b=g:=by simpa [Value.ownBlock] using e2
  exact au.mB hb hB ht rfl
theorem Below.aQ (hb:Below B w W)(hv:fY b0 v n h W)(hg:W.grownBy w' v.ownBlock)(hB:B<=b0)(hs:B<=W.heap.size):Below B w w':=by
 refine hb.grown hg hs fun q e=> ?_
 rcases hv with⟨rfl,_⟩|⟨g,cap,rfl,h1,_⟩
 ·cases e
 ·
  obtain rfl:g=q:=by simpa [Value.ownBlock] using e
  omega
end
def EJ :Value:= .agg #[.bool false,.slice none 0 0,.bool false,.slice none 0 0,.bool false,.slice none 0 0,.bool false,.slice none 0 0,.bool false,.slice none 0 0,.bool false,.slice none 0 0,.bool false,.slice none 0 0,.bool false,.slice none 0 0,.bool false,.slice none 0 0,.bool false,.slice none 0 0,.bool false,.slice none 0 0,.bool false,.slice none 0 0]
theorem EK :(Tryz.prog.info? 98).map (fun i=>(i.zero,i.size,i.bytes))=some (some EJ,24,384):=by kernel_rfl
theorem qB {olds rest:List Value}{n:Nat}{h:Nat->Nat->Q8}{x:Nat->Q8}(ho:olds.length=n*24)(hp:∀k,k<n->∀j,j<6->∀i,i<4->olds[k*24+(j*4+i)]?=some ((h k j).cell i)):
  ∀k,k<n+1->∀j,j<6->∀i,i<4->(olds++fP x++rest)[k*24+(j*4+i)]?=some (((if k=n then x else h k) j).cell i):=fun k hk j hj i hi=>by
 have hl:=fT x
 by_cases e:k=n
 ·
  subst e;rw[if_pos rfl,List.append_assoc,List.getElem?_append_right (by omega),List.getElem?_append_left (by omega),wH x (by omega)];rw[show(k*24+(j*4+i)-olds.length)/4=j by omega,show(k*24+(j*4+i)-olds.length)%4=i by omega]
 ·
  rw[if_neg e,List.append_assoc,List.getElem?_append_left (by omega)];exact hp k (by omega) j hj i hi
theorem wI {olds rest:List Value}{x:Nat->Q8}(h1:∀v,v∈olds->aP v=true)(h2:∀v,v∈rest->aP v=true){cs:Array Value}(e:cs.toList=olds++fP x++rest):∀(i:Nat) (v:Value),cs[i]?=some v->aP v=true:=fun i v hv=>by
 have hm:v∈cs.toList:=by rw[Array.mem_toList_iff];exact Array.mem_of_getElem? hv
 rw[e,List.append_assoc] at hm
 rcases List.mem_append.1 hm with hm|hm
 ·exact h1 v hm
 ·
  rcases List.mem_append.1 hm with hm|hm
  ·
   obtain⟨y,a,rfl⟩:=EI hm;exact y.KA a
  ·exact h2 v hm
theorem EL {m:Nat}:∀v,v∈(Builtin.zeroCells EJ.cells m).toList->aP v=true:=fun v hv=>by
 unfold Builtin.zeroCells at hv
 simp[EJ,Value.cells] at hv
 obtain⟨a,_,rfl⟩:=hv;have hb:a%24<24:=bK _ (by decide);generalize a%24=b at hb
 rcases b with _|_|_|_|_|_|_|_|_|_|_|_|_|_|_|_|_|_|_|_|_|_|_|_|b
 all_goals first|rfl|omega
theorem mA {w:World}(ty:TypeId){b0 n:Nat}{v:Value}{h:Nat->Nat->Q8}(hv:fY b0 v n h w)(hb0:b0<=w.heap.size)(a:Addr)(c:Nat)(x:Nat->Q8)(hx:∀j u,(fP x)[j]?=some u->w.cell? (a.add j)=some u)(hn:n<=1000):
  ∃g cap w',(Builtin.append_ #[43,43] ty #[v,.slice (some a) 1 c]).run Tryz.prog w= .ok (.slice (some ⟨g,0,none⟩) (n+1) cap) w'/\b0<=g/\
   gO g (n+1) cap (fun k=>if k=n then x else h k) w'/\w.grownBy w' v.ownBlock:=by
 obtain⟨i,hi,hz,hs,hby⟩:=info_parts EK;have ad6: Tryz.prog.underlying 43=some (.slice 98):= Tryz.underlying43
 have hl:(fP x).length=1*i.size:=by rw[fT,hs]
 have hge:=fun old=>grownCap_ge w (n+1) old 98
 have hcm:=fun old=>grownCap_le_maxLen w (n+1) old 98 (show n+1<=maxLen by unfold maxLen;omega)
 have hzs:EJ.cells.size=24:=rfl
 rcases hv with⟨rfl,rfl⟩|⟨g,cap,rfl,hg,h1,h2,cs,h3,h4,h5,h6⟩
 ·
  have hr:=run_append_nil (P:= Tryz.prog) w 43 ty 98 i EJ ad6 hi hz a 1 c (fP x) hl hx (by decide) (by decide) (by rw[hby];decide);refine⟨_,_,_,hr,hb0,⟨hge 0,hcm 0,_,eU w.drew _, ?_, ?_, ?_⟩,⟨rfl,rfl,rfl,by simp,fun k hk _=>heap_alloc_old w.drew _ hk⟩⟩
  ·
   have h0:=hge 0;rw[fk] at h0;simp only[Array.size_append,List.size_toArray,size_zeroCells,hzs,fT];omega
  ·exact wI (olds:=[]) (fun v hv=>absurd hv (by simp)) (EL (m:=grownCap w 1 0 98-1)) (x:=x) (by simp)
  ·
   intro k hk j hj i hi;have:=qB (olds:=[]) (rest:=(Builtin.zeroCells EJ.cells (grownCap w 1 0 98-1)).toList) (n:=0) (h:=h) (x:=x) rfl (fun k hk=>absurd hk (by omega)) k hk j hj i hi;rw[<-this,<-qg]
   simp
 ·
  have hlt:(cs.toList.take (n*24)).length=n*24:=by rw[List.length_take,Array.length_toList,h4];omega
  have hp:∀k,k<n->∀j,j<6->∀i,i<4->(cs.toList.take (n*24))[k*24+(j*4+i)]?=some ((h k j).cell i):=fun k hk j hj i hi=>by
   rw[List.getElem?_take_of_lt (by omega),qg];exact h6 k hk j hj i hi
  have hno:∀v,v∈cs.toList->aP v=true:=fun v hv=>by
   obtain⟨i,hi⟩:=List.getElem?_of_mem hv;exact h5 i v (by simpa using hi)
  by_cases hroom:n+1<=cap
  ·
   have hr:=run_append_room (P:= Tryz.prog) w 43 ty 98 i ad6 hi g n cap cs h3 a 1 c (fP x) hl hx (fun u hu=>by obtain⟨y,b,rfl⟩:=EI hu;unfold Q8.cell;split<;>rfl) hroom (by rw[hs,fT,h4];omega);rw[hs,fT] at hr;refine⟨_,_,_,hr,hg,⟨hroom,h2,_,setRow_heap w g cs _ _ _ h3, ?_, ?_, ?_⟩,⟨rfl,rfl,rfl,by simp,fun k _ hk=>setRow_other w g k _ (fun e=>hk (by simp[Value.ownBlock,e]))⟩⟩
   ·
    simp only[List.size_toArray,List.length_append,hlt,fT,List.length_drop,Array.length_toList,h4];omega
   ·exact wI (fun v hv=>hno v (List.mem_of_mem_take hv)) (fun v hv=>hno v (List.mem_of_mem_drop hv)) rfl
   ·
    intro k hk j hj i hi;rw[mI];exact qB hlt hp k hk j hj i hi
  ·
   have hr:=run_append_grow (P:= Tryz.prog) w 43 ty 98 i EJ ad6 hi hz ⟨g,0,none⟩ n cap (cs.toList.take (n*24)) (by rw[hlt,hs]) (fun j u hu=>by
     rw[yR,h3.cell]
     have hj:j<n*24:=by
      have:=(mM.1 hu).1;omega
     rw[List.getElem?_take_of_lt hj,qg] at hu
     exact hu) a 1 c (fP x) hl hx (by omega) (by omega) (growslice_fits (by omega) (by rw[hby];omega))
   refine⟨_,_,_,hr,hb0,⟨hge cap,hcm cap,_,eU w.drew _, ?_, ?_, ?_⟩,⟨rfl,rfl,rfl,by simp,fun k hk _=>heap_alloc_old w.drew _ hk⟩⟩
   ·
    have:=hge cap;simp only[Array.size_append,List.size_toArray,size_zeroCells,hzs,fT,hlt];omega
   ·exact wI (olds:=cs.toList.take (n*24)) (fun v hv=>hno v (List.mem_of_mem_take hv)) (EL (m:=grownCap w (n+1) cap 98-(n+1))) (x:=x) (by simp)
   ·
    intro k hk j hj i hi;have:=qB (rest:=(Builtin.zeroCells EJ.cells (grownCap w (n+1) cap 98-(n+1))).toList) (x:=x) hlt hp k hk j hj i hi;rw[<-this,<-qg]
    simp
def cK (h:Nat->Nat->Q8)(n:Nat)(J:Nat->Nat->Prop)(q:Nat->Nat->Rat)(W:World):Prop:=∀k,k<n->∀j,j<6->J k j->(h k j).fv W (q k j)
section
variable {w w' W:World} {g n cap b0:Nat} {v:Value} {P:Nat->Nat->Nat->Value} {h:Nat->Nat->Q8} {J:Nat->Nat->Prop} {q:Nat->Nat->Rat}
theorem cK.stable (h:Nat->Nat->Q8)(n:Nat)(J:Nat->Nat->Prop)(q:Nat->Nat->Rat):ck (cK h n J q):=fun _ _ hb hq k hk j hj hJ=>FV.below (hq k hk j hj hJ) hb
theorem cK.to (hq:cK h n J q W)(hf:∀{q:Rat} {s t:Bool} {A C:Option Addr} {a b:Nat},FV W q s A a t C b->FV w' q s A a t C b):cK h n J q w':=fun k hk j hj hJ=>hf (hq k hk j hj hJ)
theorem cK.sub {J':Nat->Nat->Prop}(hq:cK h n J q W)(e:∀k,k<n->∀j,j<6->J' k j->J k j):cK h n J' q W:=fun k hk j hj hJ=>hq k hk j hj (e k hk j hj hJ)
theorem cK.set {x:Q8}{k j:Nat}{J':Nat->Nat->Prop}(hq:cK h n J q W)(hx:x.fv W (q k j))(e:∀k',k'<n->∀j',j'<6->J' k' j'->(k'=k/\j'=j)\/J k' j'):cK (Zg h k j x) n J' q W:=fun k' hk' j' hj' hJ=>by
 unfold Zg
 by_cases c:k'=k/\j'=j
 ·
  obtain⟨rfl,rfl⟩:=c;rw[if_pos ⟨rfl,rfl⟩];exact hx
 ·
  rw[if_neg c]
  rcases e k' hk' j' hj' hJ with c2|c2
  ·exact absurd c2 c
  ·exact hq k' hk' j' hj' c2
theorem cK.snoc {x:Nat->Q8}{J':Nat->Nat->Prop}(hq:cK h n J q W)(hx:∀j,j<6->J' n j->(x j).fv W (q n j))(e:∀k,k<n->∀j,j<6->J' k j->J k j):cK (fun k=>if k=n then x else h k) (n+1) J' q W:=fun k hk j hj hJ=>by
 by_cases c:k=n
 ·
  subst c;simp only[if_pos];exact hx j hj hJ
 ·
  simp only[if_neg c];exact hq k (by omega) j hj (e k (by omega) j hj hJ)
theorem cW.far (hc:cW g n cap P W){p:Addr}(hp:g≠p.block)(u:Value):cW g n cap P (W.setCell p u):=by
 obtain⟨h1,h2,cs,h3,h4⟩:=hc;exact⟨h1,h2,cs,h3.far hp u,h4⟩
theorem fY.far (hv:fY b0 v n h W){R:Nat}{t:TypeId}{cs:Array Value}(hR:au t R cs W)(ht:t≠ 98)(i:Nat)(u:Value):fY b0 v n h (W.setCell ⟨R,i,none⟩ u):=by
 rcases hv with hv|⟨g,cap,e,hg,hB⟩
 ·exact .inl hv
 ·exact .inr ⟨g,cap,e,hg,cW.far hB (p:=⟨R,i,none⟩) (Ne.symm (au.mB hR hB ht)) u⟩
theorem fY.aj (hv:fY b0 v n h W){R:Nat}{t:TypeId}{x y z u:Value}(hR:au t R #[x,y,z,u] W)(ht:t≠ 98)(a b c d:Value):fY b0 v n h ((((W.setCell ⟨R,0,none⟩ a).setCell ⟨R,1,none⟩ b).setCell ⟨R,2,none⟩ c).setCell ⟨R,3,none⟩ d):=
 (((hv.far hR ht 0 a).far (hR.dZ 0 a) ht 1 b).far ((hR.dZ 0 a).dZ 1 b) ht 2 c).far (((hR.dZ 0 a).dZ 1 b).dZ 2 c) ht 3 d
theorem cK.ak (hq:cK h n J q W){R:Nat}{t:TypeId}{x y z u:Value}(hR:au t R #[x,y,z,u] W)(hn: [x,y,z,u].all aP=true)(a b c d:Value)(ha:aP a=true)(hb:aP b=true)(hc:aP c=true):
  cK h n J q ((((W.setCell ⟨R,0,none⟩ a).setCell ⟨R,1,none⟩ b).setCell ⟨R,2,none⟩ c).setCell ⟨R,3,none⟩ d):=hq.to fun hf=>hf.ak hR hn a b c d ha hb hc
theorem Env.gF {P:World->Prop}(hE:Env w P W)(hv:fY b0 v n h W):Env w (fun V=>P V/\fY b0 v n h V) W:=hE.and (fY.stable _ _ _ _) hv
theorem Env.fZ {P':World->Prop}(hE:Env w P' W)(hv:cW g n cap P W):Env w (fun V=>P' V/\cW g n cap P V) W:=hE.and (cW.stable _ _ _ _) hv
theorem Env.bP {P:World->Prop}(hE:Env w P W)(hv:cK h n J q W):Env w (fun V=>P V/\cK h n J q V) W:=hE.and (cK.stable _ _ _ _) hv
end
end
section
open Go.RowKit

section
variable {t:TypeId} {g:Nat} {w:World} {a b c d e f x y z u:Value}
theorem au.c7 (h:au t g #[a,b,c,d,e,f,x] w):w.cell? ⟨g,0,none⟩=some a/\w.cell? ⟨g,1,none⟩=some b/\w.cell? ⟨g,2,none⟩=some c/\w.cell? ⟨g,3,none⟩=some d/\w.cell? ⟨g,4,none⟩=some e/\w.cell? ⟨g,5,none⟩=some f/\w.cell? ⟨g,6,none⟩=some x:=
 ⟨h.cell 0,h.cell 1,h.cell 2,h.cell 3,h.cell 4,h.cell 5,h.cell 6⟩
theorem au.cB (h:au t g #[a,b,c,d,e,f,x,y,z,u] w):w.cell? ⟨g,0,none⟩=some a/\w.cell? ⟨g,1,none⟩=some b/\w.cell? ⟨g,2,none⟩=some c/\w.cell? ⟨g,3,none⟩=some d/\w.cell? ⟨g,4,none⟩=some e/\w.cell? ⟨g,5,none⟩=some f/\w.cell? ⟨g,6,none⟩=some x/\w.cell? ⟨g,7,none⟩=some y/\w.cell? ⟨g,8,none⟩=some z/\w.cell? ⟨g,9,none⟩=some u:=
 ⟨h.cell 0,h.cell 1,h.cell 2,h.cell 3,h.cell 4,h.cell 5,h.cell 6,h.cell 7,h.cell 8,h.cell 9⟩
end
def xH (s:Bool)(n:Nat)(f:Nat->Nat)(t:Bool)(m:Nat)(g:Nat->Nat):Bool:=okF s n f t m g&&(!s&&(decide (n<=1)&&decide (m<=1)))
def SB (F S:Int)(n:Nat)(r:Nat->RH)(si:Bool)(ni:Nat)(fi:Nat->Nat)(ti:Bool)(mi:Nat)(gi:Nat->Nat):Prop:=DR F S n r/\xH si ni fi ti mi gi=true
theorem EM {w:World}{s t:Bool}{A B:Option Addr}{n m:Nat}{f g:Nat->Nat}(hr:kA w A n f B m g)(h:xH s n f t m g=true):FV w (yz s n f m g) s A n t B m/\Cn (yz s n f m g):=by
 unfold xH at h;simp only[Bool.and_eq_true,Bool.not_eq_true',decide_eq_true_eq] at h;obtain⟨h1,rfl,h3,h4⟩:=h;obtain⟨hv,-,-,-⟩:=Ed hr h1;refine⟨hv, ?_, ?_, ?_⟩
 ·
  have:=hv.1.AM;have:=qf this.symm;exact mN.1 (by omega)
 ·
  have:=hv.1.len
  simpa using(bJ aA).1 (show ln ai (yz false n f m g).num.natAbs<=1 by omega)
 ·
  have:=hv.2.len;rw[bV] at this
  simpa using(bJ aA).1 (show ln ai (yz false n f m g).den<=1 by omega)
theorem eY {a b:Rat}{sa ta sb tb:Bool}{Aa Ba Ab Bb:Option Addr}{na ca ma da nb cb mb db:Nat}{w:World}(ha:FV w a sa Aa na ta Ba ma)(hb:FV w b sb Ab nb tb Bb mb)(la:fl a<=256)(lb:fl b<=256)(lr:fl (a+b)<=256):
  Calls Tryz.prog 108 #[.agg (az sa Aa na ca ta Ba ma da),.agg (az sb Ab nb cb tb Bb mb db)] w (FR (a+b) w):=by
 have hE:=((((Env.start w).fv ha).fv hb).blk 29 (az sa Aa na ca ta Ba ma da) (g:=w.heap.size) rfl).blk 29 (az sb Ab nb cb tb Bb mb db) (g:=w.heap.size+1) (by simp);have hE:=hE.blk 29 aW (g:=w.heap.size+1+1) (by simp)
 obtain⟨W0,aC⟩:∃W0,W0=(((w.alloc (.cells (az sa Aa na ca ta Ba ma da) 29)).alloc (.cells (az sb Ab nb cb tb Bb mb db) 29)).alloc (.cells aW 29)):=⟨_,rfl⟩
 rw[<-aC] at hE;have aZ:=af aC;clear aC
 go_enter Tryz.func108,Tryz.ntmps108
 go_upto_region 1 with(fail)
 rw[<-aZ.out];obtain⟨k1,k2,k3,k4⟩:=(hE.h2).c4;obtain⟨k5,k6,k7,k8⟩:=(hE.g1).c4;go_wp2_with fail
 refine hE.fr (FZ (ca:=ca) (da:=da) (cb:=cb) (db:=db) hE.h4 hE.h3 la lb lr) ?_;clear hE k1 k2 k3 k4 k5 k6 k7 k8;intro sr Ar nr cr tr Br mr dr w9 hE
 go_upto_region 2 with(fail)
 obtain⟨g10,bL⟩:∃g10,g10=w9.heap.size:=⟨_,rfl⟩
 have jh:w.heap.size<g10:=by rw[bL];exact(hE.h3).lt
 have iF:w.heap.size+1<g10:=by rw[bL];exact(hE.h2).lt
 have jF:w.heap.size+1+1<g10:=by rw[bL];exact(hE.g1).lt
 replace hE:=hE.blk 29 (az sr Ar nr cr tr Br mr dr) (g:=g10) bL.symm;generalize w9.alloc (.cells (az sr Ar nr cr tr Br mr dr) 29)=xQ at hE⊢;rw[<-bL];clear bL;obtain⟨dX,dY,eu,eF⟩:=(hE.g0).c4
 have cS:w.heap.size<=w.heap.size+1+1:=by omega
 obtain⟨WW,bn,hB,hV,aM⟩:=aR hE hE.h2 cS hE.g1 cr dr;obtain⟨x0,x1,x2,x3⟩:=(hE.h2).c4;obtain⟨fL,fM,fV,fW⟩:=hE.h2.f4;have bR:=af bn;clear bn;go_wp2_with fail
 clear dX dY eu eF;rw[<-bR.out];obtain⟨y0,y1,y2,y3⟩:=hB.c4;refine aK (v:= .agg (az sr Ar nr cr tr Br mr dr)) (by simp[results,Tryz.results108,go_sem,y0,y1,y2,y3]) rfl ?_;exact⟨sr,Ar,nr,cr,tr,Br,mr,dr,rfl,hV,aM⟩
theorem CD {a b:Rat}{sa ta sb tb:Bool}{Aa Ba Ab Bb:Option Addr}{na ca ma da nb cb mb db:Nat}{w:World}(ha:FV w a sa Aa na ta Ba ma)(hb:FV w b sb Ab nb tb Bb mb)(la:fl a<=256)(lb:fl b<=256)(lr:fl (a-b)<=256):
  Calls Tryz.prog 107 #[.agg (az sa Aa na ca ta Ba ma da),.agg (az sb Ab nb cb tb Bb mb db)] w (FR (a-b) w):=by
 have hE:=((((Env.start w).fv ha).fv hb).blk 29 (az sa Aa na ca ta Ba ma da) (g:=w.heap.size) rfl).blk 29 (az sb Ab nb cb tb Bb mb db) (g:=w.heap.size+1) (by simp);have hE:=hE.blk 29 aW (g:=w.heap.size+1+1) (by simp)
 obtain⟨W0,aC⟩:∃W0,W0=(((w.alloc (.cells (az sa Aa na ca ta Ba ma da) 29)).alloc (.cells (az sb Ab nb cb tb Bb mb db) 29)).alloc (.cells aW 29)):=⟨_,rfl⟩
 rw[<-aC] at hE;have aZ:=af aC;clear aC
 go_enter Tryz.func107,Tryz.ntmps107
 go_upto_region 1 with(fail)
 rw[<-aZ.out];obtain⟨k1,k2,k3,k4⟩:=(hE.h2).c4;obtain⟨k5,k6,k7,k8⟩:=(hE.g1).c4;go_wp2_with fail
 refine hE.fr (zV (ca:=ca) (da:=da) (cb:=cb) (db:=db) hE.h4 hE.h3 la lb lr) ?_;clear hE k1 k2 k3 k4 k5 k6 k7 k8;intro sr Ar nr cr tr Br mr dr w9 hE
 go_upto_region 2 with(fail)
 obtain⟨g10,bL⟩:∃g10,g10=w9.heap.size:=⟨_,rfl⟩
 have jh:w.heap.size<g10:=by rw[bL];exact(hE.h3).lt
 have iF:w.heap.size+1<g10:=by rw[bL];exact(hE.h2).lt
 have jF:w.heap.size+1+1<g10:=by rw[bL];exact(hE.g1).lt
 replace hE:=hE.blk 29 (az sr Ar nr cr tr Br mr dr) (g:=g10) bL.symm;generalize w9.alloc (.cells (az sr Ar nr cr tr Br mr dr) 29)=xQ at hE⊢;rw[<-bL];clear bL;obtain⟨dX,dY,eu,eF⟩:=(hE.g0).c4
 have cS:w.heap.size<=w.heap.size+1+1:=by omega
 obtain⟨WW,bn,hB,hV,aM⟩:=aR hE hE.h2 cS hE.g1 cr dr;obtain⟨x0,x1,x2,x3⟩:=(hE.h2).c4;obtain⟨fL,fM,fV,fW⟩:=hE.h2.f4;have bR:=af bn;clear bn;go_wp2_with fail
 clear dX dY eu eF;rw[<-bR.out];obtain⟨y0,y1,y2,y3⟩:=hB.c4;refine aK (v:= .agg (az sr Ar nr cr tr Br mr dr)) (by simp[results,Tryz.results107,go_sem,y0,y1,y2,y3]) rfl ?_;exact⟨sr,Ar,nr,cr,tr,Br,mr,dr,rfl,hV,aM⟩
theorem qN {a b:Rat}{sa ta sb tb:Bool}{Aa Ba Ab Bb:Option Addr}{na ca ma da nb cb mb db:Nat}{w:World}(ha:FV w a sa Aa na ta Ba ma)(hb:FV w b sb Ab nb tb Bb mb)(la:fl a<=256)(lb:fl b<=256)(lr:fl (a*b)<=256):
  Calls Tryz.prog 106 #[.agg (az sa Aa na ca ta Ba ma da),.agg (az sb Ab nb cb tb Bb mb db)] w (FR (a*b) w):=by
 have hE:=((((Env.start w).fv ha).fv hb).blk 29 (az sa Aa na ca ta Ba ma da) (g:=w.heap.size) rfl).blk 29 (az sb Ab nb cb tb Bb mb db) (g:=w.heap.size+1) (by simp);have hE:=hE.blk 29 aW (g:=w.heap.size+1+1) (by simp)
 obtain⟨W0,aC⟩:∃W0,W0=(((w.alloc (.cells (az sa Aa na ca ta Ba ma da) 29)).alloc (.cells (az sb Ab nb cb tb Bb mb db) 29)).alloc (.cells aW 29)):=⟨_,rfl⟩
 rw[<-aC] at hE;have aZ:=af aC;clear aC
 go_enter Tryz.func106,Tryz.ntmps106
 go_upto_region 1 with(fail)
 rw[<-aZ.out];obtain⟨k1,k2,k3,k4⟩:=(hE.h2).c4;obtain⟨k5,k6,k7,k8⟩:=(hE.g1).c4;go_wp2_with fail
 refine hE.fr (zW (ca:=ca) (da:=da) (cb:=cb) (db:=db) hE.h4 hE.h3 la lb lr) ?_;clear hE k1 k2 k3 k4 k5 k6 k7 k8;intro sr Ar nr cr tr Br mr dr w9 hE
 go_upto_region 2 with(fail)
 obtain⟨g10,bL⟩:∃g10,g10=w9.heap.size:=⟨_,rfl⟩
 have jh:w.heap.size<g10:=by rw[bL];exact(hE.h3).lt
 have iF:w.heap.size+1<g10:=by rw[bL];exact(hE.h2).lt
 have jF:w.heap.size+1+1<g10:=by rw[bL];exact(hE.g1).lt
 replace hE:=hE.blk 29 (az sr Ar nr cr tr Br mr dr) (g:=g10) bL.symm;generalize w9.alloc (.cells (az sr Ar nr cr tr Br mr dr) 29)=xQ at hE⊢;rw[<-bL];clear bL;obtain⟨dX,dY,eu,eF⟩:=(hE.g0).c4
 have cS:w.heap.size<=w.heap.size+1+1:=by omega
 obtain⟨WW,bn,hB,hV,aM⟩:=aR hE hE.h2 cS hE.g1 cr dr;obtain⟨x0,x1,x2,x3⟩:=(hE.h2).c4;obtain⟨fL,fM,fV,fW⟩:=hE.h2.f4;have bR:=af bn;clear bn;go_wp2_with fail
 clear dX dY eu eF;rw[<-bR.out];obtain⟨y0,y1,y2,y3⟩:=hB.c4;refine aK (v:= .agg (az sr Ar nr cr tr Br mr dr)) (by simp[results,Tryz.results106,go_sem,y0,y1,y2,y3]) rfl ?_;exact⟨sr,Ar,nr,cr,tr,Br,mr,dr,rfl,hV,aM⟩
theorem mJ (F S:Int)(A:Option Addr)(n c:Nat)(r:Nat->RH)(si ti:Bool)(Ai Bi:Option Addr)(ni mi ci di:Nat)(fi gi:Nat->Nat)(w:World)(hT:eZ w A n r)(hB:nJ n r)(hr:kA w Ai ni fi Bi mi gi)(hn:ni<=1000000)(hm:mi<=1000000):
  Calls Tryz.prog 83 #[.agg (uW F S A n c si Ai ni ci ti Bi mi di)] w (js (SB F S n r si ni fi ti mi gi) w):=by
 by_cases hok:DR F S n r
 ·
  cases hv:okF si ni fi ti mi gi with
  |false=>
   have HN:Hid (¬SB F S n r si ni fi ti mi gi):=af (fun h=>by have h2:=h.2;unfold xH at h2;rw[hv] at h2;simp at h2);have hE:=((Env.start w).GY hT).blk 31 (uW F S A n c si Ai ni ci ti Bi mi di) (g:=w.heap.size) rfl
   obtain⟨W0,aC⟩:∃W0,W0=(w.alloc (.cells (uW F S A n c si Ai ni ci ti Bi mi di) 31)):=⟨_,rfl⟩
   rw[<-aC] at hE;have aZ:=af aC;clear aC
   go_enter Tryz.func83,Tryz.ntmps83
   go_upto_region 1 with(fail)
   rw[<-aZ.out];obtain⟨k1,k2,k3,k4,k5,k6,k7⟩:=(hE.g0).c7
   go_upto_region 2 with(fail)
   clear k1 k2 k3 k4 k5 k6 k7
   obtain⟨g8,nV⟩:∃g8,g8=W0.heap.size:=⟨_,rfl⟩
   have EN:w.heap.size<g8:=by rw[nV];exact(hE.g0).lt
   replace hE:=hE.blk 29 (az si Ai ni ci ti Bi mi di) (g:=g8) nV.symm;generalize W0.alloc (.cells (az si Ai ni ci ti Bi mi di) 29)=W8 at hE⊢;rw[<-nV];clear nV;obtain⟨k9,fU,dX,dY,eu,eF,iA⟩:=(hE.g1).c7;go_wp2_with fail
   refine hE.br (gJ (c:=c) hE.h2 hB hok) ?_;clear hE k9 fU dX dY eu eF iA;intro FD hE;obtain⟨lU,jS,kT,kB⟩:=(hE.g0).c4;go_wp2_with fail
   refine hE.br (cV si ti Ai Bi ni mi ci di fi gi _ (hr.below hE.ax) hn hm _ hv) ?_;clear hE lU jS kT kB;intro MH hE;go_wp2_with fail
   go_ret
   exact⟨false,rfl,bQ HN.out,hE.ax⟩
  |true=>
   cases si with
   |true=>
    have HN:Hid (¬SB F S n r true ni fi ti mi gi):=af (fun h=>by have h2:=h.2;unfold xH at h2;rw[hv] at h2;simp at h2);have hE:=((Env.start w).GY hT).blk 31 (uW F S A n c true Ai ni ci ti Bi mi di) (g:=w.heap.size) rfl
    obtain⟨W0,aC⟩:∃W0,W0=(w.alloc (.cells (uW F S A n c true Ai ni ci ti Bi mi di) 31)):=⟨_,rfl⟩
    rw[<-aC] at hE;have aZ:=af aC;clear aC
    go_enter Tryz.func83,Tryz.ntmps83
    go_upto_region 1 with(fail)
    rw[<-aZ.out];obtain⟨k1,k2,k3,k4,k5,k6,k7⟩:=(hE.g0).c7
    go_upto_region 2 with(fail)
    clear k1 k2 k3 k4 k5 k6 k7
    obtain⟨g8,nV⟩:∃g8,g8=W0.heap.size:=⟨_,rfl⟩
    have EN:w.heap.size<g8:=by rw[nV];exact(hE.g0).lt
    replace hE:=hE.blk 29 (az true Ai ni ci ti Bi mi di) (g:=g8) nV.symm;generalize W0.alloc (.cells (az true Ai ni ci ti Bi mi di) 29)=W8 at hE⊢;rw[<-nV];clear nV;obtain⟨k9,fU,dX,dY,eu,eF,iA⟩:=(hE.g1).c7;go_wp2_with fail
    refine hE.br (gJ (c:=c) hE.h2 hB hok) ?_;clear hE k9 fU dX dY eu eF iA;intro FD hE;obtain⟨lU,jS,kT,kB⟩:=(hE.g0).c4;go_wp2_with fail
    refine hE.br (cV true ti Ai Bi ni mi ci di fi gi _ (hr.below hE.ax) hn hm _ hv) ?_;clear hE lU jS kT kB;intro MH hE;obtain⟨lW,nC,rP,pU⟩:=(hE.g0).c4;go_wp2_with fail
    go_ret
    exact⟨false,rfl,bQ HN.out,hE.ax⟩
   |false=>
    by_cases h1:ni<=1
    ·
     have t1:decide ((ni:Int)<=1)=true:=aL (by omega)
     by_cases h2:mi<=1
     ·
      have t2:decide ((mi:Int)<=1)=true:=aL (by omega);have HN:Hid (SB F S n r false ni fi ti mi gi):=af ⟨hok,by unfold xH;rw[hv,aL h1,aL h2];rfl⟩;have hE:=((Env.start w).GY hT).blk 31 (uW F S A n c false Ai ni ci ti Bi mi di) (g:=w.heap.size) rfl
      obtain⟨W0,aC⟩:∃W0,W0=(w.alloc (.cells (uW F S A n c false Ai ni ci ti Bi mi di) 31)):=⟨_,rfl⟩
      rw[<-aC] at hE;have aZ:=af aC;clear aC
      go_enter Tryz.func83,Tryz.ntmps83
      go_upto_region 1 with(fail)
      rw[<-aZ.out];obtain⟨k1,k2,k3,k4,k5,k6,k7⟩:=(hE.g0).c7
      go_upto_region 2 with(fail)
      clear k1 k2 k3 k4 k5 k6 k7
      obtain⟨g8,nV⟩:∃g8,g8=W0.heap.size:=⟨_,rfl⟩
      have EN:w.heap.size<g8:=by rw[nV];exact(hE.g0).lt
      replace hE:=hE.blk 29 (az false Ai ni ci ti Bi mi di) (g:=g8) nV.symm;generalize W0.alloc (.cells (az false Ai ni ci ti Bi mi di) 29)=W8 at hE⊢;rw[<-nV];clear nV;obtain⟨k9,fU,dX,dY,eu,eF,iA⟩:=(hE.g1).c7;go_wp2_with fail
      refine hE.br (gJ (c:=c) hE.h2 hB hok) ?_;clear hE k9 fU dX dY eu eF iA;intro FD hE;obtain⟨lU,jS,kT,kB⟩:=(hE.g0).c4;go_wp2_with fail
      refine hE.br (cV false ti Ai Bi ni mi ci di fi gi _ (hr.below hE.ax) hn hm _ hv) ?_;clear hE lU jS kT kB;intro MH hE;obtain⟨lW,nC,rP,pU⟩:=(hE.g0).c4;go_wp2_with fail
      go_ret
      exact⟨true,rfl,uO HN.out,hE.ax⟩
     ·
      have t2:decide ((mi:Int)<=1)=false:=aH (by omega);have HN:Hid (¬SB F S n r false ni fi ti mi gi):=af (fun h=>by have h3:=h.2;unfold xH at h3;rw[hv,aL h1,aH h2] at h3;simp at h3);have hE:=((Env.start w).GY hT).blk 31 (uW F S A n c false Ai ni ci ti Bi mi di) (g:=w.heap.size) rfl
      obtain⟨W0,aC⟩:∃W0,W0=(w.alloc (.cells (uW F S A n c false Ai ni ci ti Bi mi di) 31)):=⟨_,rfl⟩
      rw[<-aC] at hE;have aZ:=af aC;clear aC
      go_enter Tryz.func83,Tryz.ntmps83
      go_upto_region 1 with(fail)
      rw[<-aZ.out];obtain⟨k1,k2,k3,k4,k5,k6,k7⟩:=(hE.g0).c7
      go_upto_region 2 with(fail)
      clear k1 k2 k3 k4 k5 k6 k7
      obtain⟨g8,nV⟩:∃g8,g8=W0.heap.size:=⟨_,rfl⟩
      have EN:w.heap.size<g8:=by rw[nV];exact(hE.g0).lt
      replace hE:=hE.blk 29 (az false Ai ni ci ti Bi mi di) (g:=g8) nV.symm;generalize W0.alloc (.cells (az false Ai ni ci ti Bi mi di) 29)=W8 at hE⊢;rw[<-nV];clear nV;obtain⟨k9,fU,dX,dY,eu,eF,iA⟩:=(hE.g1).c7;go_wp2_with fail
      refine hE.br (gJ (c:=c) hE.h2 hB hok) ?_;clear hE k9 fU dX dY eu eF iA;intro FD hE;obtain⟨lU,jS,kT,kB⟩:=(hE.g0).c4;go_wp2_with fail
      refine hE.br (cV false ti Ai Bi ni mi ci di fi gi _ (hr.below hE.ax) hn hm _ hv) ?_;clear hE lU jS kT kB;intro MH hE;obtain⟨lW,nC,rP,pU⟩:=(hE.g0).c4;go_wp2_with fail
      go_ret
      exact⟨false,rfl,bQ HN.out,hE.ax⟩
    ·
     have t1:decide ((ni:Int)<=1)=false:=aH (by omega);have HN:Hid (¬SB F S n r false ni fi ti mi gi):=af (fun h=>by have h3:=h.2;unfold xH at h3;rw[hv,aH h1] at h3;simp at h3);have hE:=((Env.start w).GY hT).blk 31 (uW F S A n c false Ai ni ci ti Bi mi di) (g:=w.heap.size) rfl
     obtain⟨W0,aC⟩:∃W0,W0=(w.alloc (.cells (uW F S A n c false Ai ni ci ti Bi mi di) 31)):=⟨_,rfl⟩
     rw[<-aC] at hE;have aZ:=af aC;clear aC
     go_enter Tryz.func83,Tryz.ntmps83
     go_upto_region 1 with(fail)
     rw[<-aZ.out];obtain⟨k1,k2,k3,k4,k5,k6,k7⟩:=(hE.g0).c7
     go_upto_region 2 with(fail)
     clear k1 k2 k3 k4 k5 k6 k7
     obtain⟨g8,nV⟩:∃g8,g8=W0.heap.size:=⟨_,rfl⟩
     have EN:w.heap.size<g8:=by rw[nV];exact(hE.g0).lt
     replace hE:=hE.blk 29 (az false Ai ni ci ti Bi mi di) (g:=g8) nV.symm;generalize W0.alloc (.cells (az false Ai ni ci ti Bi mi di) 29)=W8 at hE⊢;rw[<-nV];clear nV;obtain⟨k9,fU,dX,dY,eu,eF,iA⟩:=(hE.g1).c7;go_wp2_with fail
     refine hE.br (gJ (c:=c) hE.h2 hB hok) ?_;clear hE k9 fU dX dY eu eF iA;intro FD hE;obtain⟨lU,jS,kT,kB⟩:=(hE.g0).c4;go_wp2_with fail
     refine hE.br (cV false ti Ai Bi ni mi ci di fi gi _ (hr.below hE.ax) hn hm _ hv) ?_;clear hE lU jS kT kB;intro MH hE;obtain⟨lW,nC,rP,pU⟩:=(hE.g0).c4;go_wp2_with fail
     go_ret
     exact⟨false,rfl,bQ HN.out,hE.ax⟩
 ·
  have HN:Hid (¬SB F S n r si ni fi ti mi gi):=af (fun h=>hok h.1);have hE:=((Env.start w).GY hT).blk 31 (uW F S A n c si Ai ni ci ti Bi mi di) (g:=w.heap.size) rfl
  obtain⟨W0,aC⟩:∃W0,W0=(w.alloc (.cells (uW F S A n c si Ai ni ci ti Bi mi di) 31)):=⟨_,rfl⟩
  rw[<-aC] at hE;have aZ:=af aC;clear aC
  go_enter Tryz.func83,Tryz.ntmps83
  go_upto_region 1 with(fail)
  rw[<-aZ.out];obtain⟨k1,k2,k3,k4,k5,k6,k7⟩:=(hE.g0).c7
  go_upto_region 2 with(fail)
  clear k1 k2 k3 k4 k5 k6 k7
  obtain⟨g8,nV⟩:∃g8,g8=W0.heap.size:=⟨_,rfl⟩
  have EN:w.heap.size<g8:=by rw[nV];exact(hE.g0).lt
  replace hE:=hE.blk 29 (az si Ai ni ci ti Bi mi di) (g:=g8) nV.symm;generalize W0.alloc (.cells (az si Ai ni ci ti Bi mi di) 29)=W8 at hE⊢;rw[<-nV];clear nV;obtain⟨k9,fU,dX,dY,eu,eF,iA⟩:=(hE.g1).c7;go_wp2_with fail
  refine hE.br (ED (c:=c) hE.h2 hB hok) ?_;clear hE k9 fU dX dY eu eF iA;intro FD hE;go_wp2_with fail
  go_ret
  exact⟨false,rfl,bQ HN.out,hE.ax⟩
theorem SC {F S:Int}{A:Option Addr}{n c:Nat}{r:Nat->RH}{si ti:Bool}{Ai Bi:Option Addr}{ni mi ci di:Nat}{fi gi:Nat->Nat}{w:World}(hT:eZ w A n r)(hB:nJ n r)(hr:kA w Ai ni fi Bi mi gi)(hn:ni<=1000000)(hm:mi<=1000000)(h:SB F S n r si ni fi ti mi gi):
  Calls Tryz.prog 83 #[.agg (uW F S A n c si Ai ni ci ti Bi mi di)] w fun e w'=>e= .returned (.bool true)/\Below w.heap.size w w':=
 (mJ F S A n c r si ti Ai Bi ni mi ci di fi gi w hT hB hr hn hm).mono fun _ _ ⟨v,he,hv,hb⟩=>by obtain rfl:v=true:=hv.2 h;exact⟨he,hb⟩
theorem Cn.nz {i:Rat}(h:Cn i):(1+i).num≠0:=fun e=>by
 have h1:=Rat.num_eq_zero.1 e;have:=h.1
 grind
theorem Cz {F S:Int}{A:Option Addr}{n c:Nat}{si ti:Bool}{Ai Bi:Option Addr}{ni ci mi di:Nat}{q:Rat}{w:World}(hq:FV w q si Ai ni ti Bi mi)(hi:Cn q):
  Calls Tryz.prog 105 #[.agg (uW F S A n c si Ai ni ci ti Bi mi di)] w (FR (1/(1+q)) w):=by
 have l1:=hi.one;have l0:=hi.fl;have lv:=hi.MK.ql.l (by decide) (by decide) (by decide);have hnz:(1+q).num≠0:=hi.nz;have Yf:=af l1;clear l1;have Hl0:=af l0;clear l0;have Hlv:=af lv;clear lv;have YX:=af hi;clear hi;have SD:=af hnz;clear hnz;have hE:=((Env.start w).fv hq).blk 31 (uW F S A n c si Ai ni ci ti Bi mi di) (g:=w.heap.size) rfl;have hE:=hE.blk 29 aW (g:=w.heap.size+1) (by simp)
 obtain⟨W0,aC⟩:∃W0,W0=((w.alloc (.cells (uW F S A n c si Ai ni ci ti Bi mi di) 31)).alloc (.cells aW 29)):=⟨_,rfl⟩
 rw[<-aC] at hE;have aZ:=af aC;clear aC
 go_enter Tryz.func105,Tryz.ntmps105
 go_upto_region 1 with(fail)
 rw[<-aZ.out]
 go_cut [3,4] from 5 to 14 (fun p0 p1 wx=>∃G1 sv Av nv cv tv Bv mv dv,p0= .pointer (some ⟨G1,0,none⟩)/\p1= .int .i64 0/\w.heap.size+1<G1/\Env w (fun V=>(((((True/\FV V q si Ai ni ti Bi mi)/\au 31 (w.heap.size) (uW F S A n c si Ai ni ci ti Bi mi di) V)/\au 29 (w.heap.size+1) aW V)/\FV V (1/(1+q)) sv Av nv tv Bv mv)/\au 29 (G1) (az sv Av nv cv tv Bv mv dv) V)) wx)
 case first=>
  replace hE:=hE.drew;refine bH (S:=fun w'=>w'.cell? ⟨w.heap.size,0,none⟩=some (.int .i64 F)/\w'.cell? ⟨w.heap.size,1,none⟩=some (.int .i64 S)/\w'.cell? ⟨w.heap.size,2,none⟩=some (.slice A n c)/\w'.cell? ⟨w.heap.size,3,none⟩=some (.bool si)/\w'.cell? ⟨w.heap.size,4,none⟩=some (.slice Ai ni ci)/\w'.cell? ⟨w.heap.size,5,none⟩=some (.bool ti)/\w'.cell? ⟨w.heap.size,6,none⟩=some (.slice Bi mi di)) (by kernel_rfl) (⟨(hE.g1).c7.1,(hE.g1).c7.2.1,(hE.g1).c7.2.2.1,(hE.g1).c7.2.2.2.1,(hE.g1).c7.2.2.2.2.1,(hE.g1).c7.2.2.2.2.2.1,(hE.g1).c7.2.2.2.2.2.2⟩) (fun hHeld=> ?_)
  generalize W0.drew=wd at*
  refine tk 2 ?_;refine tk 3 ?_;refine cC (rs:=[0,9]) (by kernel_rfl) (by simp) (bq rfl (fun K hK=> ?_) (bq rfl (fun K hK=> ?_) (cD)))
  ·
   go_simp;refine hE.fr (bg 1 (wd) (by decide) (by decide)) ?_;clear hE;intro sp Ap np cp tp Bp mp dp w1 hE;go_wp2_with fail
   refine hK.out _ _ (⟨(hE.h2).c7.1,(hE.h2).c7.2.1,(hE.h2).c7.2.2.1,(hE.h2).c7.2.2.2.1,(hE.h2).c7.2.2.2.2.1,(hE.h2).c7.2.2.2.2.2.1,(hE.h2).c7.2.2.2.2.2.2⟩) (fun hHeld=> ?_);clear hK K;try simp only[PL]
   refine cC (rs:=[1,9]) (by kernel_rfl) (by simp) (bq rfl (fun K hK=> ?_) (bq rfl (fun K hK=> ?_) (cD)))
   ·
    go_simp;refine hE.fr (bg 1 (w1) (by decide) (by decide)) ?_;clear hE;intro sw Aw nw cw tw Bw mw dw w2 hE;go_wp2_with fail
    refine hK.out _ _ (⟨(hE.h3).c7.1,(hE.h3).c7.2.1,(hE.h3).c7.2.2.1,(hE.h3).c7.2.2.2.1,(hE.h3).c7.2.2.2.2.1,(hE.h3).c7.2.2.2.2.2.1,(hE.h3).c7.2.2.2.2.2.2⟩) (fun hHeld=> ?_);clear hK K;try simp only[PL]
    refine cC (rs:=[4,9]) (by kernel_rfl) (by simp) (bq rfl (fun K hK=> ?_) (bq rfl (fun K hK=> ?_) (cD)))
    ·
     go_simp;refine hE.fr (eY (a:=1) (b:=q) (ca:=cw) (da:=dw) (cb:=ci) (db:=di) hE.g0 hE.h4 jL (ay Hl0.out (by decide)) (ay Yf.out (by decide))) ?_;clear hE;intro sj Aj nj cj tj Bj mj dj w3 hE;go_wp2_with fail
     refine hK.out _ _ (⟨(hE.h4).c7.1,(hE.h4).c7.2.1,(hE.h4).c7.2.2.1,(hE.h4).c7.2.2.2.1,(hE.h4).c7.2.2.2.2.1,(hE.h4).c7.2.2.2.2.2.1,(hE.h4).c7.2.2.2.2.2.2⟩) (fun hHeld=> ?_);clear hK K;try simp only[PL]
     refine cC (rs:=[5,9]) (by kernel_rfl) (by simp) (bq rfl (fun K hK=> ?_) (bq rfl (fun K hK=> ?_) (cD)))
     ·
      go_simp;refine hE.fr (sP (a:=1) (b:=1+q) (ca:=cp) (da:=dp) (cb:=cj) (db:=dj) hE.h2 hE.g0 jL (ay Yf.out (by decide)) SD.out Hlv.out) ?_;clear hE;intro sv Av nv cv tv Bv mv dv w4 hE;go_wp2_with fail
      refine hK.out _ _ (⟨(hE.h5).c7.1,(hE.h5).c7.2.1,(hE.h5).c7.2.2.1,(hE.h5).c7.2.2.2.1,(hE.h5).c7.2.2.2.2.1,(hE.h5).c7.2.2.2.2.2.1,(hE.h5).c7.2.2.2.2.2.2⟩) (fun hHeld=> ?_);clear hK K;try simp only[PL]
      refine tk 6 ?_;refine tk 7 ?_;refine tk 8 ?_;refine r1 9 (fun K hK=> ?_);go_simp
      obtain⟨g5,rT⟩:∃g5,g5=w4.heap.size:=⟨_,rfl⟩
      have Zo:w.heap.size<g5:=by rw[rT];exact(hE.h5).lt
      have Zp:w.heap.size+1<g5:=by rw[rT];exact(hE.h4).lt
      replace hE:=hE.blk 29 aW (g:=g5) rT.symm;generalize w4.alloc (.cells aW 29)=W5 at hE⊢;rw[<-rT];clear rT;refine hK.out _ _ (⟨(hE.h6).c7.1,(hE.h6).c7.2.1,(hE.h6).c7.2.2.1,(hE.h6).c7.2.2.2.1,(hE.h6).c7.2.2.2.2.1,(hE.h6).c7.2.2.2.2.2.1,(hE.h6).c7.2.2.2.2.2.2⟩) (fun hHeld=> ?_);clear hK K;try simp only[PL]
      refine r1 10 (fun K hK=> ?_)
      have Ou:w.heap.size<=g5:=by omega
      obtain⟨abU,abV,abW,abX⟩:=(hE.g0).c4;obtain⟨abY,abZ,ab0,ab1⟩:=hE.g0.f4;replace hE:=(((((((((Env.again (bW hE.ax Ou (.bool sv) (.slice Av nv cv) (.bool tv) (.slice Bv mv dv))).fv ((hE.h7).ak hE.g0 rfl _ _ _ _ rfl rfl rfl)).ag ((hE.h6).aj (by omega) _ _ _ _)).ag ((hE.h5).aj (by omega) _ _ _ _)).fv ((hE.h4).ak hE.g0 rfl _ _ _ _ rfl rfl rfl)).fv ((hE.h3).ak hE.g0 rfl _ _ _ _ rfl rfl rfl)).fv ((hE.h2).ak hE.g0 rfl _ _ _ _ rfl rfl rfl)).fv ((hE.g1).ak hE.g0 rfl _ _ _ _ rfl rfl rfl)).ag ((hE.g0).s4 _ _ _ _));go_simp;clear abU abV abW abX abY abZ ab0 ab1 Ou;generalize ((((W5.setCell ⟨g5,0,none⟩ (.bool sv)).setCell ⟨g5,1,none⟩ (.slice Av nv cv)).setCell ⟨g5,2,none⟩ (.bool tv)).setCell ⟨g5,3,none⟩ (.slice Bv mv dv))=W6 at hE⊢;refine hK.out _ _ (⟨(hE.h6).c7.1,(hE.h6).c7.2.1,(hE.h6).c7.2.2.1,(hE.h6).c7.2.2.2.1,(hE.h6).c7.2.2.2.2.1,(hE.h6).c7.2.2.2.2.2.1,(hE.h6).c7.2.2.2.2.2.2⟩) (fun hHeld=> ?_);clear hK K;try simp only[PL]
      refine tk 11 ?_;refine aX (by kernel_rfl) ?_ _;go_wp2_with fail
      go_meet
      exact⟨g5,sv,Av,nv,cv,tv,Bv,mv,dv,rfl,rfl,by omega,((((((Env.again hE.ax).fv (hE.h7)).ag (hE.h6)).ag (hE.h5)).fv (hE.g1)).ag (hE.g0))⟩
     ·
      go_simp
      obtain⟨g7,hg7⟩:∃g7,g7=w3.heap.size:=⟨_,rfl⟩
      have aq5:w.heap.size<g7:=by rw[hg7];exact(hE.h4).lt
      have aq6:w.heap.size+1<g7:=by rw[hg7];exact(hE.h3).lt
      replace hE:=hE.blk 29 aW (g:=g7) hg7.symm;generalize w3.alloc (.cells aW 29)=W7 at hE⊢;rw[<-hg7];clear hg7;refine hK.out _ _ (⟨(hE.h5).c7.1,(hE.h5).c7.2.1,(hE.h5).c7.2.2.1,(hE.h5).c7.2.2.2.1,(hE.h5).c7.2.2.2.2.1,(hE.h5).c7.2.2.2.2.2.1,(hE.h5).c7.2.2.2.2.2.2⟩) (fun hHeld=> ?_);clear hK K;try simp only[PL]
      refine r1 5 (fun K hK=> ?_);go_simp;refine hE.fr (sP (a:=1) (b:=1+q) (ca:=cp) (da:=dp) (cb:=cj) (db:=dj) hE.h3 hE.g1 jL (ay Yf.out (by decide)) SD.out Hlv.out) ?_;clear hE;intro sv Av nv cv tv Bv mv dv w8 hE;go_wp2_with fail
      refine hK.out _ _ (⟨(hE.h6).c7.1,(hE.h6).c7.2.1,(hE.h6).c7.2.2.1,(hE.h6).c7.2.2.2.1,(hE.h6).c7.2.2.2.2.1,(hE.h6).c7.2.2.2.2.2.1,(hE.h6).c7.2.2.2.2.2.2⟩) (fun hHeld=> ?_);clear hK K;try simp only[PL]
      refine tk 6 ?_;refine tk 7 ?_;refine tk 8 ?_;refine r1 10 (fun K hK=> ?_)
      have RW:w.heap.size<=g7:=by omega
      obtain⟨adL,adM,apM,apN⟩:=(hE.g1).c4;obtain⟨adN,adO,apO,apP⟩:=hE.g1.f4;replace hE:=(((((((((Env.again (bW hE.ax RW (.bool sv) (.slice Av nv cv) (.bool tv) (.slice Bv mv dv))).fv ((hE.h7).ak hE.g1 rfl _ _ _ _ rfl rfl rfl)).ag ((hE.h6).aj (by omega) _ _ _ _)).ag ((hE.h5).aj (by omega) _ _ _ _)).fv ((hE.h4).ak hE.g1 rfl _ _ _ _ rfl rfl rfl)).fv ((hE.h3).ak hE.g1 rfl _ _ _ _ rfl rfl rfl)).fv ((hE.h2).ak hE.g1 rfl _ _ _ _ rfl rfl rfl)).ag ((hE.g1).s4 _ _ _ _)).fv ((hE.g0).ak hE.g1 rfl _ _ _ _ rfl rfl rfl));go_simp;clear adL adM apM apN adN adO apO apP RW;generalize ((((w8.setCell ⟨g7,0,none⟩ (.bool sv)).setCell ⟨g7,1,none⟩ (.slice Av nv cv)).setCell ⟨g7,2,none⟩ (.bool tv)).setCell ⟨g7,3,none⟩ (.slice Bv mv dv))=W9 at hE⊢;refine hK.out _ _ (⟨(hE.h6).c7.1,(hE.h6).c7.2.1,(hE.h6).c7.2.2.1,(hE.h6).c7.2.2.2.1,(hE.h6).c7.2.2.2.2.1,(hE.h6).c7.2.2.2.2.2.1,(hE.h6).c7.2.2.2.2.2.2⟩) (fun hHeld=> ?_);clear hK K;try simp only[PL]
      refine tk 11 ?_;refine aX (by kernel_rfl) ?_ _;go_wp2_with fail
      go_meet
      exact⟨g7,sv,Av,nv,cv,tv,Bv,mv,dv,rfl,rfl,by omega,((((((Env.again hE.ax).fv (hE.h7)).ag (hE.h6)).ag (hE.h5)).fv (hE.g0)).ag (hE.g1))⟩
    ·
     go_simp
     obtain⟨g10,bL⟩:∃g10,g10=w2.heap.size:=⟨_,rfl⟩
     have apQ:w.heap.size<g10:=by rw[bL];exact(hE.h3).lt
     have jh:w.heap.size+1<g10:=by rw[bL];exact(hE.h2).lt
     replace hE:=hE.blk 29 aW (g:=g10) bL.symm;generalize w2.alloc (.cells aW 29)=xQ at hE⊢;rw[<-bL];clear bL;refine hK.out _ _ (⟨(hE.h4).c7.1,(hE.h4).c7.2.1,(hE.h4).c7.2.2.1,(hE.h4).c7.2.2.2.1,(hE.h4).c7.2.2.2.2.1,(hE.h4).c7.2.2.2.2.2.1,(hE.h4).c7.2.2.2.2.2.2⟩) (fun hHeld=> ?_);clear hK K;try simp only[PL]
     refine r1 4 (fun K hK=> ?_);go_simp;refine hE.fr (eY (a:=1) (b:=q) (ca:=cw) (da:=dw) (cb:=ci) (db:=di) hE.g1 hE.h5 jL (ay Hl0.out (by decide)) (ay Yf.out (by decide))) ?_;clear hE;intro sj Aj nj cj tj Bj mj dj Kw hE;go_wp2_with fail
     refine hK.out _ _ (⟨(hE.h5).c7.1,(hE.h5).c7.2.1,(hE.h5).c7.2.2.1,(hE.h5).c7.2.2.2.1,(hE.h5).c7.2.2.2.2.1,(hE.h5).c7.2.2.2.2.2.1,(hE.h5).c7.2.2.2.2.2.2⟩) (fun hHeld=> ?_);clear hK K;try simp only[PL]
     refine r1 5 (fun K hK=> ?_);go_simp;refine hE.fr (sP (a:=1) (b:=1+q) (ca:=cp) (da:=dp) (cb:=cj) (db:=dj) hE.h3 hE.g0 jL (ay Yf.out (by decide)) SD.out Hlv.out) ?_;clear hE;intro sv Av nv cv tv Bv mv dv On hE;go_wp2_with fail
     refine hK.out _ _ (⟨(hE.h6).c7.1,(hE.h6).c7.2.1,(hE.h6).c7.2.2.1,(hE.h6).c7.2.2.2.1,(hE.h6).c7.2.2.2.2.1,(hE.h6).c7.2.2.2.2.2.1,(hE.h6).c7.2.2.2.2.2.2⟩) (fun hHeld=> ?_);clear hK K;try simp only[PL]
     refine tk 6 ?_;refine tk 7 ?_;refine tk 8 ?_;refine r1 10 (fun K hK=> ?_)
     have tI:w.heap.size<=g10:=by omega
     obtain⟨Db,Dc,Dd,De⟩:=(hE.h2).c4;obtain⟨Df,Dg,Dh,Dk⟩:=hE.h2.f4;replace hE:=(((((((((Env.again (bW hE.ax tI (.bool sv) (.slice Av nv cv) (.bool tv) (.slice Bv mv dv))).fv ((hE.h7).ak hE.h2 rfl _ _ _ _ rfl rfl rfl)).ag ((hE.h6).aj (by omega) _ _ _ _)).ag ((hE.h5).aj (by omega) _ _ _ _)).fv ((hE.h4).ak hE.h2 rfl _ _ _ _ rfl rfl rfl)).fv ((hE.h3).ak hE.h2 rfl _ _ _ _ rfl rfl rfl)).ag ((hE.h2).s4 _ _ _ _)).fv ((hE.g1).ak hE.h2 rfl _ _ _ _ rfl rfl rfl)).fv ((hE.g0).ak hE.h2 rfl _ _ _ _ rfl rfl rfl));go_simp;clear Db Dc Dd De Df Dg Dh Dk tI;generalize ((((On.setCell ⟨g10,0,none⟩ (.bool sv)).setCell ⟨g10,1,none⟩ (.slice Av nv cv)).setCell ⟨g10,2,none⟩ (.bool tv)).setCell ⟨g10,3,none⟩ (.slice Bv mv dv))=W13 at hE⊢;refine hK.out _ _ (⟨(hE.h6).c7.1,(hE.h6).c7.2.1,(hE.h6).c7.2.2.1,(hE.h6).c7.2.2.2.1,(hE.h6).c7.2.2.2.2.1,(hE.h6).c7.2.2.2.2.2.1,(hE.h6).c7.2.2.2.2.2.2⟩) (fun hHeld=> ?_);clear hK K;try simp only[PL]
     refine tk 11 ?_;refine aX (by kernel_rfl) ?_ _;go_wp2_with fail
     go_meet
     exact⟨g10,sv,Av,nv,cv,tv,Bv,mv,dv,rfl,rfl,by omega,((((((Env.again hE.ax).fv (hE.h7)).ag (hE.h6)).ag (hE.h5)).fv (hE.g0)).ag (hE.h2))⟩
   ·
    go_simp
    obtain⟨g14,ur⟩:∃g14,g14=w1.heap.size:=⟨_,rfl⟩
    have apR:w.heap.size<g14:=by rw[ur];exact(hE.h2).lt
    have apS:w.heap.size+1<g14:=by rw[ur];exact(hE.g1).lt
    replace hE:=hE.blk 29 aW (g:=g14) ur.symm;generalize w1.alloc (.cells aW 29)=W14 at hE⊢;rw[<-ur];clear ur;refine hK.out _ _ (⟨(hE.h3).c7.1,(hE.h3).c7.2.1,(hE.h3).c7.2.2.1,(hE.h3).c7.2.2.2.1,(hE.h3).c7.2.2.2.2.1,(hE.h3).c7.2.2.2.2.2.1,(hE.h3).c7.2.2.2.2.2.2⟩) (fun hHeld=> ?_);clear hK K;try simp only[PL]
    refine r1 1 (fun K hK=> ?_);go_simp;refine hE.fr (bg 1 (W14) (by decide) (by decide)) ?_;clear hE;intro sw Aw nw cw tw Bw mw dw wX hE;go_wp2_with fail
    refine hK.out _ _ (⟨(hE.h4).c7.1,(hE.h4).c7.2.1,(hE.h4).c7.2.2.1,(hE.h4).c7.2.2.2.1,(hE.h4).c7.2.2.2.2.1,(hE.h4).c7.2.2.2.2.2.1,(hE.h4).c7.2.2.2.2.2.2⟩) (fun hHeld=> ?_);clear hK K;try simp only[PL]
    refine r1 4 (fun K hK=> ?_);go_simp;refine hE.fr (eY (a:=1) (b:=q) (ca:=cw) (da:=dw) (cb:=ci) (db:=di) hE.g0 hE.h5 jL (ay Hl0.out (by decide)) (ay Yf.out (by decide))) ?_;clear hE;intro sj Aj nj cj tj Bj mj dj FD hE;go_wp2_with fail
    refine hK.out _ _ (⟨(hE.h5).c7.1,(hE.h5).c7.2.1,(hE.h5).c7.2.2.1,(hE.h5).c7.2.2.2.1,(hE.h5).c7.2.2.2.2.1,(hE.h5).c7.2.2.2.2.2.1,(hE.h5).c7.2.2.2.2.2.2⟩) (fun hHeld=> ?_);clear hK K;try simp only[PL]
    refine r1 5 (fun K hK=> ?_);go_simp;refine hE.fr (sP (a:=1) (b:=1+q) (ca:=cp) (da:=dp) (cb:=cj) (db:=dj) hE.h3 hE.g0 jL (ay Yf.out (by decide)) SD.out Hlv.out) ?_;clear hE;intro sv Av nv cv tv Bv mv dv Gc hE;go_wp2_with fail
    refine hK.out _ _ (⟨(hE.h6).c7.1,(hE.h6).c7.2.1,(hE.h6).c7.2.2.1,(hE.h6).c7.2.2.2.1,(hE.h6).c7.2.2.2.2.1,(hE.h6).c7.2.2.2.2.2.1,(hE.h6).c7.2.2.2.2.2.2⟩) (fun hHeld=> ?_);clear hK K;try simp only[PL]
    refine tk 6 ?_;refine tk 7 ?_;refine tk 8 ?_;refine r1 10 (fun K hK=> ?_)
    have tQ:w.heap.size<=g14:=by omega
    obtain⟨Pg,Ph,Pj,Pk⟩:=(hE.h3).c4;obtain⟨Po,Pq,Pt,Pu⟩:=hE.h3.f4;replace hE:=(((((((((Env.again (bW hE.ax tQ (.bool sv) (.slice Av nv cv) (.bool tv) (.slice Bv mv dv))).fv ((hE.h7).ak hE.h3 rfl _ _ _ _ rfl rfl rfl)).ag ((hE.h6).aj (by omega) _ _ _ _)).ag ((hE.h5).aj (by omega) _ _ _ _)).fv ((hE.h4).ak hE.h3 rfl _ _ _ _ rfl rfl rfl)).ag ((hE.h3).s4 _ _ _ _)).fv ((hE.h2).ak hE.h3 rfl _ _ _ _ rfl rfl rfl)).fv ((hE.g1).ak hE.h3 rfl _ _ _ _ rfl rfl rfl)).fv ((hE.g0).ak hE.h3 rfl _ _ _ _ rfl rfl rfl));go_simp;clear Pg Ph Pj Pk Po Pq Pt Pu tQ;generalize ((((Gc.setCell ⟨g14,0,none⟩ (.bool sv)).setCell ⟨g14,1,none⟩ (.slice Av nv cv)).setCell ⟨g14,2,none⟩ (.bool tv)).setCell ⟨g14,3,none⟩ (.slice Bv mv dv))=W18 at hE⊢;refine hK.out _ _ (⟨(hE.h6).c7.1,(hE.h6).c7.2.1,(hE.h6).c7.2.2.1,(hE.h6).c7.2.2.2.1,(hE.h6).c7.2.2.2.2.1,(hE.h6).c7.2.2.2.2.2.1,(hE.h6).c7.2.2.2.2.2.2⟩) (fun hHeld=> ?_);clear hK K;try simp only[PL]
    refine tk 11 ?_;refine aX (by kernel_rfl) ?_ _;go_wp2_with fail
    go_meet
    exact⟨g14,sv,Av,nv,cv,tv,Bv,mv,dv,rfl,rfl,by omega,((((((Env.again hE.ax).fv (hE.h7)).ag (hE.h6)).ag (hE.h5)).fv (hE.g0)).ag (hE.h3))⟩
  ·
   go_simp
   obtain⟨g19,mQ⟩:∃g19,g19=wd.heap.size:=⟨_,rfl⟩
   have apT:w.heap.size<g19:=by rw[mQ];exact(hE.g1).lt
   have apU:w.heap.size+1<g19:=by rw[mQ];exact(hE.g0).lt
   replace hE:=hE.blk 29 aW (g:=g19) mQ.symm;generalize wd.alloc (.cells aW 29)=ZE at hE⊢;rw[<-mQ];clear mQ;refine hK.out _ _ (⟨(hE.h2).c7.1,(hE.h2).c7.2.1,(hE.h2).c7.2.2.1,(hE.h2).c7.2.2.2.1,(hE.h2).c7.2.2.2.2.1,(hE.h2).c7.2.2.2.2.2.1,(hE.h2).c7.2.2.2.2.2.2⟩) (fun hHeld=> ?_);clear hK K;try simp only[PL]
   refine r1 0 (fun K hK=> ?_);go_simp;refine hE.fr (bg 1 (ZE) (by decide) (by decide)) ?_;clear hE;intro sp Ap np cp tp Bp mp dp w20 hE;go_wp2_with fail
   refine hK.out _ _ (⟨(hE.h3).c7.1,(hE.h3).c7.2.1,(hE.h3).c7.2.2.1,(hE.h3).c7.2.2.2.1,(hE.h3).c7.2.2.2.2.1,(hE.h3).c7.2.2.2.2.2.1,(hE.h3).c7.2.2.2.2.2.2⟩) (fun hHeld=> ?_);clear hK K;try simp only[PL]
   refine r1 1 (fun K hK=> ?_);go_simp;refine hE.fr (bg 1 (w20) (by decide) (by decide)) ?_;clear hE;intro sw Aw nw cw tw Bw mw dw MH hE;go_wp2_with fail
   refine hK.out _ _ (⟨(hE.h4).c7.1,(hE.h4).c7.2.1,(hE.h4).c7.2.2.1,(hE.h4).c7.2.2.2.1,(hE.h4).c7.2.2.2.2.1,(hE.h4).c7.2.2.2.2.2.1,(hE.h4).c7.2.2.2.2.2.2⟩) (fun hHeld=> ?_);clear hK K;try simp only[PL]
   refine r1 4 (fun K hK=> ?_);go_simp;refine hE.fr (eY (a:=1) (b:=q) (ca:=cw) (da:=dw) (cb:=ci) (db:=di) hE.g0 hE.h5 jL (ay Hl0.out (by decide)) (ay Yf.out (by decide))) ?_;clear hE;intro sj Aj nj cj tj Bj mj dj w22 hE;go_wp2_with fail
   refine hK.out _ _ (⟨(hE.h5).c7.1,(hE.h5).c7.2.1,(hE.h5).c7.2.2.1,(hE.h5).c7.2.2.2.1,(hE.h5).c7.2.2.2.2.1,(hE.h5).c7.2.2.2.2.2.1,(hE.h5).c7.2.2.2.2.2.2⟩) (fun hHeld=> ?_);clear hK K;try simp only[PL]
   refine r1 5 (fun K hK=> ?_);go_simp;refine hE.fr (sP (a:=1) (b:=1+q) (ca:=cp) (da:=dp) (cb:=cj) (db:=dj) hE.h2 hE.g0 jL (ay Yf.out (by decide)) SD.out Hlv.out) ?_;clear hE;intro sv Av nv cv tv Bv mv dv w23 hE;go_wp2_with fail
   refine hK.out _ _ (⟨(hE.h6).c7.1,(hE.h6).c7.2.1,(hE.h6).c7.2.2.1,(hE.h6).c7.2.2.2.1,(hE.h6).c7.2.2.2.2.1,(hE.h6).c7.2.2.2.2.2.1,(hE.h6).c7.2.2.2.2.2.2⟩) (fun hHeld=> ?_);clear hK K;try simp only[PL]
   refine tk 6 ?_;refine tk 7 ?_;refine tk 8 ?_;refine r1 10 (fun K hK=> ?_)
   have tR:w.heap.size<=g19:=by omega
   obtain⟨RX,RY,ajl,ajm⟩:=(hE.h4).c4;obtain⟨RZ,Sa,ajn,ajo⟩:=hE.h4.f4;replace hE:=(((((((((Env.again (bW hE.ax tR (.bool sv) (.slice Av nv cv) (.bool tv) (.slice Bv mv dv))).fv ((hE.h7).ak hE.h4 rfl _ _ _ _ rfl rfl rfl)).ag ((hE.h6).aj (by omega) _ _ _ _)).ag ((hE.h5).aj (by omega) _ _ _ _)).ag ((hE.h4).s4 _ _ _ _)).fv ((hE.h3).ak hE.h4 rfl _ _ _ _ rfl rfl rfl)).fv ((hE.h2).ak hE.h4 rfl _ _ _ _ rfl rfl rfl)).fv ((hE.g1).ak hE.h4 rfl _ _ _ _ rfl rfl rfl)).fv ((hE.g0).ak hE.h4 rfl _ _ _ _ rfl rfl rfl));go_simp;clear RX RY ajl ajm RZ Sa ajn ajo tR;generalize ((((w23.setCell ⟨g19,0,none⟩ (.bool sv)).setCell ⟨g19,1,none⟩ (.slice Av nv cv)).setCell ⟨g19,2,none⟩ (.bool tv)).setCell ⟨g19,3,none⟩ (.slice Bv mv dv))=W24 at hE⊢;refine hK.out _ _ (⟨(hE.h6).c7.1,(hE.h6).c7.2.1,(hE.h6).c7.2.2.1,(hE.h6).c7.2.2.2.1,(hE.h6).c7.2.2.2.2.1,(hE.h6).c7.2.2.2.2.2.1,(hE.h6).c7.2.2.2.2.2.2⟩) (fun hHeld=> ?_);clear hK K;try simp only[PL]
   refine tk 11 ?_;refine aX (by kernel_rfl) ?_ _;go_wp2_with fail
   go_meet
   exact⟨g19,sv,Av,nv,cv,tv,Bv,mv,dv,rfl,rfl,by omega,((((((Env.again hE.ax).fv (hE.h7)).ag (hE.h6)).ag (hE.h5)).fv (hE.g0)).ag (hE.h4))⟩
 case rest=>
 clear hE;obtain⟨G1,sv,Av,nv,cv,tv,Bv,mv,dv,rfl,rfl,hG1,hE⟩:=hcut;generalize wc=wk1 at hE⊢
 go_upto_region 2 with(fail)
 obtain⟨pU,nQ,qH,pM⟩:=(hE.g0).c4
 have cS:w.heap.size<=w.heap.size+1:=by omega
 obtain⟨WW,bn,hB,hV,aM⟩:=aR hE hE.h2 cS hE.g1 cv dv;obtain⟨x0,x1,x2,x3⟩:=(hE.h2).c4;obtain⟨fL,fM,fV,fW⟩:=hE.h2.f4;have bR:=af bn;clear bn;go_wp2_with fail
 clear pU nQ qH pM;rw[<-bR.out];obtain⟨y0,y1,y2,y3⟩:=hB.c4;refine aK (v:= .agg (az sv Av nv cv tv Bv mv dv)) (by simp[results,Tryz.results105,go_sem,y0,y1,y2,y3]) rfl ?_;exact⟨sv,Av,nv,cv,tv,Bv,mv,dv,rfl,hV,aM⟩
theorem xO {F S E Y:Int}{A:Option Addr}{n c:Nat}{r:Nat->RH}{w:World}(hT:eZ w A n r)(hB:nJ n r)(hR:¬dH F S n r E Y):
  Calls Tryz.prog 25 #[.agg #[.int .i64 F,.int .i64 S,.slice A n c],.agg #[.int .i64 E,.int .i64 Y]] w (fun e w'=>e= .returned (.tuple #[.agg aW,.int .i64 2])/\Below w.heap.size w w'):=by
 have hE:=(((Env.start w).GY hT).blk 24 #[.int .i64 F,.int .i64 S,.slice A n c] (g:=w.heap.size) rfl).blk 33 #[.int .i64 E,.int .i64 Y] (g:=w.heap.size+1) (by simp);have hE:=hE.blk 29 aW (g:=w.heap.size+1+1) (by simp)
 obtain⟨W0,aC⟩:∃W0,W0=(((w.alloc (.cells #[.int .i64 F,.int .i64 S,.slice A n c] 24)).alloc (.cells #[.int .i64 E,.int .i64 Y] 33)).alloc (.cells aW 29)):=⟨_,rfl⟩
 rw[<-aC] at hE;have aZ:=af aC;clear aC
 go_enter Tryz.func25,Tryz.ntmps25
 go_upto_region 1 with(fail)
 rw[<-aZ.out];obtain⟨k1,k2,k3⟩:=(hE.h2).c3;obtain⟨k4,k5⟩:=(hE.g1).c2;go_wp2_with fail
 refine hE.br (St (c:=c) hE.h3 hB hR) ?_;clear hE k1 k2 k3 k4 k5;intro w6 hE
 have cS:w.heap.size<=w.heap.size+1+1:=by omega
 have hB:=(hE.g0).s4 (.bool false) (.slice none 0 0) (.bool false) (.slice none 0 0);have aM:=bW hE.ax cS (.bool false) (.slice none 0 0) (.bool false) (.slice none 0 0)
 obtain⟨WW,bn⟩:∃x,x=((((w6.setCell ⟨w.heap.size+1+1,0,none⟩ (.bool false)).setCell ⟨w.heap.size+1+1,1,none⟩ (.slice none 0 0)).setCell ⟨w.heap.size+1+1,2,none⟩ (.bool false)).setCell ⟨w.heap.size+1+1,3,none⟩ (.slice none 0 0)):=⟨_,rfl⟩
 rw[<-bn] at hB aM;obtain⟨x0,x1,x2,x3⟩:=(hE.g0).c4;obtain⟨fL,fM,fV,fW⟩:=(hE.g0).f4;have bR:=af bn;clear bn;go_wp2_with fail
 clear x0 x1 x2 x3;rw[<-bR.out];obtain⟨y0,y1,y2,y3⟩:=hB.c4;refine aK (v:= .tuple #[.agg aW,.int .i64 2]) (by simp[results,Tryz.results25,go_sem,y0,y1,y2,y3]) rfl ?_;exact⟨rfl,aM⟩
end
section
open Go.RowKit

def Kept (u:World)(R:Nat)(V:World):Prop:=u.grownBy V (some R)
section
variable {u V V':World} {R g:Nat}
theorem fY.KA {b0 n:Nat}{v:Value}{h:Nat->Nat->Q8}{W:World}(hv:fY b0 v n h W):aP v=true:=by
 rcases hv with⟨rfl,_⟩|⟨g,cap,rfl,_⟩<;>rfl
theorem Kept.refl (u:World)(R:Nat):Kept u R u:=⟨rfl,rfl,rfl,aq _,fun _ _ _=>rfl⟩
theorem Kept.grown (h:Kept u R V){row:Option Nat}(hg:V.grownBy V' row)(hr:∀q,row=some q->u.heap.size<=q\/q=R):Kept u R V':=
 ⟨hg.os.trans h.os,hg.tape.trans h.tape,hg.output.trans h.output,ay h.size hg.size,fun k hk hne=>(hg.block k (bY hk h.size) (fun e=>by
  rcases hr k e.symm with h1|h1
  ·omega
  ·subst h1;exact hne rfl)).trans (h.block k hk hne)⟩
theorem Kept.stable (u:World)(R:Nat):ck (Kept u R):=fun _ _ hb h=>h.grown (oD hb) (fun _ e=>by cases e)
theorem Kept.set (h:Kept u R V)(hg:u.heap.size<=g\/g=R)(i:Nat)(a:Value):Kept u R (V.setCell ⟨g,i,none⟩ a):=h.grown (lM V g i a) (fun _ e=>by cases e;exact hg)
theorem Kept.KB (h:Kept u R V)(hg:u.heap.size<=g\/g=R)(i:Nat)(a:Value):Kept u R (V.setCell ⟨g,i,none⟩ a):=h.set hg i a
theorem Kept.cQ (h:Kept u R V)(hg:u.heap.size<=g\/g=R)(a b c d:Value):Kept u R ((((V.setCell ⟨g,0,none⟩ a).setCell ⟨g,1,none⟩ b).setCell ⟨g,2,none⟩ c).setCell ⟨g,3,none⟩ d):=(((h.set hg 0 a).set hg 1 b).set hg 2 c).set hg 3 d
theorem Kept.aQ {n:Nat}{v:Value}{hh:Nat->Nat->Q8}(h:Kept u R V)(hv:fY u.heap.size v n hh V)(hg:V.grownBy V' v.ownBlock):Kept u R V':=h.grown hg fun q e=>by
 rcases hv with⟨rfl,_⟩|⟨g,cap,rfl,h1,_⟩
 ·cases e
 ·
  obtain rfl:g=q:=by simpa [Value.ownBlock] using e
  exact .inl h1
end
theorem Env.kept {w W u:World}{R:Nat}{P:World->Prop}(hE:Env w P W)(hk:Kept u R W):Env w (fun V=>P V/\Kept u R V) W:=hE.and (Kept.stable _ _) hk
theorem cK.KC {W:World}{n R:Nat}{h:Nat->Nat->Q8}{J:Nat->Nat->Prop}{q:Nat->Nat->Rat}(hq:cK h n J q W){t:TypeId}{cs:Array Value}(hR:au t R cs W)(hn:cs.toList.all aP=true)(i:Nat)(a:Value):cK h n J q (W.setCell ⟨R,i,none⟩ a):=hq.to fun hf=>hf.sep hR hn a
def FL (p:Value)(W:World):Int:=match p with
 | .pointer (some ⟨b,_,_⟩)=>intOf ((W.cell? ⟨b,1,none⟩).getD (.int .i64 0))
 |_=>0
theorem oJ {W:World}{g:Nat}{t:TypeId}{E y:Int}(h:au t g #[.int .i64 E,.int .i64 y] W):FL (.pointer (some ⟨g,0,none⟩)) W=y:=by
 unfold FL;simp only[h.cell];rfl
def xg (d c:Q8):Nat->Q8:=fun j=>if j=0 then d else if j=3 then c else Q8.z
theorem zn {W:World}{g:Nat}{d c:Q8}(hb:au 98 g #[.bool d.s,.slice d.A d.n d.c,.bool d.t,.slice d.B d.m d.d,.bool false,.slice none 0 0,.bool false,.slice none 0 0,.bool false,.slice none 0 0,.bool false,.slice none 0 0,.bool c.s,.slice c.A c.n c.c,.bool c.t,.slice c.B c.m c.d,.bool false,.slice none 0 0,.bool false,.slice none 0 0,.bool false,.slice none 0 0,.bool false,.slice none 0 0] W):
  ∀j u,(fP (xg d c))[j]?=some u->W.cell? ((⟨g,0,none⟩:Addr).add j)=some u:=fun j u h=>by
 have e:fP (xg d c)=[.bool d.s,.slice d.A d.n d.c,.bool d.t,.slice d.B d.m d.d,.bool false,.slice none 0 0,.bool false,.slice none 0 0,.bool false,.slice none 0 0,.bool false,.slice none 0 0,.bool c.s,.slice c.A c.n c.c,.bool c.t,.slice c.B c.m c.d,.bool false,.slice none 0 0,.bool false,.slice none 0 0,.bool false,.slice none 0 0,.bool false,.slice none 0 0]:=rfl;rw[yR,hb.cell,mI,<-e];exact h
def bP (v:Rat)(f:Nat->Rat)(N:Nat)(k j:Nat):Rat:=
 if j=0 then dd v f k else if j=1 then sf (dd v f) N k else if j=2 then sf (sf (dd v f) N) N k else if j=3 then cc v f k else if j=4 then sf (cc v f) N k else sf (sf (cc v f) N) N k
theorem qO {P:Program}{o:Oper}{a:Act}{K:Act->World->Prop}{Q:Exit->Act->World->Prop}{w w':World}{s x:Operand}{t:TypeId}{v1 v2 v':Value}(ho:o.op= .call {callee:= .builtin .append,args:=#[s,x],argTypes:=#[t,t]})
  (hs:a.eval s=v1) (hx:a.eval x=v2) (hr:(Builtin.append_ #[t,t] o.type #[v1,v2]).run P w= .ok v' w') (h:K (a.put o.dst v') w'):o.wp P a w K Q:=by
 unfold Oper.wp execOp;simp only[ho,resolve,invoke,builtin,Sem.run_bind,Sem.run_pure,Result.andThen_ok,List.map_toArray,List.map_cons,List.map_nil,hs,hx,hr];exact h
theorem Env.bO {w W:World}{P:World->Prop}{b o:Nat}{v:Value}(h:Env w P W)(ha:At b o v W):Env w (fun V=>P V/\At b o v V) W:=h.and (At.stable b o v) ha
theorem MO {F S E Y yr:Int}{n k:Nat}{r:Nat->RH}(hR:dH F S n r E Y)(hy:yr=Y+(k:Int))(h3:yr<=300):dH F S n r E yr:=by
 obtain⟨ht,r1,r2,r3,r4⟩:=hR;exact⟨ht,r1,r2,by omega,h3⟩
theorem KE {F S E yr:Int}{n:Nat}{r:Nat->RH}(h3:¬yr<=300):¬dH F S n r E yr:=fun h=>h3 h.2.2.2.2
theorem YY {F S E Y yr:Int}{n k:Nat}{r:Nat->RH}(hy:yr=Y+(k:Int)):fr F S n r E yr 0=fr F S n r E Y k:=by
 rw[hy,Yb];rfl
theorem Uh {F S E Y yr:Int}{n k:Nat}{r:Nat->RH}(hR:dH F S n r E Y)(hy:yr=Y+(k:Int))(h3:¬yr<=300):((1:Int):Rat)=fr F S n r E Y k:=by
 show _=rt F S n r E Y (k:Int);unfold rt;obtain⟨ht,r1,r2,r3,r4⟩:=hR;have n2:=ht.2.1.2;have n3:=ht.1.1.2;rw[if_pos (by omega)];rfl
theorem Iy {F S E Y yr:Int}{n k:Nat}{r:Nat->RH}(hR:dH F S n r E Y)(hy:yr=Y+(k:Int))(hk:k<=1000):IntKind.i64.wrap (yr+1)=yr+1:=by
 obtain⟨_,_,_,_,_⟩:=hR;rw[cL];omega
theorem FV.nz {W:World}{q:Rat}{s t:Bool}{A B:Option Addr}{n m:Nat}(h:FV W q s A n t B m):n=0↔q=0:=by
 have hl:=h.1.len;have hp:0<Go.Proofs.YtclbiihcbfnjmaaGreat.ln ai q.num.natAbs↔0<q.num.natAbs:=dM aA;rw[<-Rat.num_eq_zero];omega
end
end Go.Proofs.YtclbiihcbfnjmaaGreat
