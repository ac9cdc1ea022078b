/-
  Parts.
-/
import Derived.Laws.AppendOwn
import Derived.Test.YtclbiihcbfnjmaaGreatK14
import Derived.Test.YtclbiihcbfnjmaaGreatK2
import Derived.Test.YtclbiihcbfnjmaaGreatK8
import Derived.Test.YtclbiihcbfnjmaaGreatK18
import Derived.Test.YtclbiihcbfnjmaaGreatK13
set_option linter.unusedSimpArgs false
set_option maxRecDepth 100000
set_option maxHeartbeats 4000000
namespace Go.Proofs.YtclbiihcbfnjmaaGreat
section
open Go.RowKit

theorem add_none0 (b j:Nat):(⟨b,0,none⟩:Addr).add j=⟨b,j,none⟩:=by
 unfold Addr.add
 simp
 exact fun h=>h.symm
structure Q8 where
 s:Bool
 A:Option Addr
 n:Nat
 c:Nat
 t:Bool
 B:Option Addr
 m:Nat
 d:Nat
def Q8.cell (x:Q8):Nat->Value
 |0=> .bool x.s
 |1=> .slice x.A x.n x.c
 |2=> .bool x.t
 |_=> .slice x.B x.m x.d
def Q8.fv (x:Q8)(W:World)(q:Rat):Prop:=FV W q x.s x.A x.n x.t x.B x.m
def Q8.z :Q8:=⟨false,none,0,0,false,none,0,0⟩
theorem Q8.noL (x:Q8)(i:Nat):noLimb (x.cell i)=true:=by unfold Q8.cell;split<;>rfl
def cols1 (x:Nat->Q8):List Value:=(List.range 24).map (fun i=>(x (i/4)).cell (i%4))
theorem cols1_len (x:Nat->Q8):(cols1 x).length=24:=by simp[cols1]
theorem cols1_at (x:Nat->Q8){i:Nat}(h:i<24):(cols1 x)[i]?=some ((x (i/4)).cell (i%4)):=by
 unfold cols1;rw[List.getElem?_map,List.getElem?_range h];rfl
theorem cols1_in {x:Nat->Q8}{u:Value}(h:u∈cols1 x):∃y:Q8,∃i,u=y.cell i:=by
 unfold cols1 at h;obtain⟨i,_,rfl⟩:=List.mem_map.1 h;exact⟨_,_,rfl⟩
def ColP (g n cap:Nat)(P:Nat->Nat->Nat->Value)(W:World):Prop:=
 n<=cap/\cap<=maxLen/\∃cs:Array Value,Blk 98 g cs W/\cs.size=cap*24/\(∀(i:Nat) (v:Value),cs[i]?=some v->noLimb v=true)/\
  ∀k,k<n->∀j,j<6->∀i,i<4->cs[k*24+(j*4+i)]?=some (P k j i)
def ColB (g n cap:Nat)(h:Nat->Nat->Q8):World->Prop:=ColP g n cap (fun k j i=>(h k j).cell i)
section
variable {w w' W:World} {g n cap B:Nat} {P:Nat->Nat->Nat->Value} {h:Nat->Nat->Q8}
theorem all_noLimb {cs:Array Value}(h:∀(i:Nat) (v:Value),cs[i]?=some v->noLimb v=true):cs.toList.all noLimb=true:=
 List.all_eq_true.2 fun v hv=>by
  obtain⟨i,hi⟩:=List.getElem?_of_mem hv;exact h i v (by simpa using hi)
theorem ColP.lt (h:ColP g n cap P W):g<W.heap.size:=by obtain⟨_,_,cs,hb,_⟩:=h;exact hb.lt
theorem ColP.at_ (h:ColP g n cap P W){k j i:Nat}(hk:k<n)(hj:j<6)(hi:i<4):W.cell? ⟨g,k*24+(j*4+i),none⟩=some (P k j i):=by
 obtain⟨_,_,cs,hb,_,_,hc⟩:=h;rw[hb.cell];exact hc k hk j hj i hi
theorem ColP.frozen (h:ColP g n cap P W)(i:Nat):W.frozen? ⟨g,i,none⟩=false:=by obtain⟨_,_,cs,hb,_⟩:=h;exact hb.frozen i
theorem ColP.stable (g n cap:Nat)(P:Nat->Nat->Nat->Value):Stable (ColP g n cap P):=fun _ _ hb ⟨h1,h2,cs,h3,h4⟩=>⟨h1,h2,cs,h3.below hb h3.lt,h4⟩
theorem ColP.below (h:ColP g n cap P w)(hb:Below w.heap.size w w'):ColP g n cap P w':=ColP.stable _ _ _ _ _ _ hb h
theorem ColP.congr {P':Nat->Nat->Nat->Value}(h:ColP g n cap P W)(e:∀k,k<n->∀j,j<6->∀i,i<4->P k j i=P' k j i):ColP g n cap P' W:=by
 obtain⟨h1,h2,cs,h3,h4,h5,h6⟩:=h;exact⟨h1,h2,cs,h3,h4,h5,fun k hk j hj i hi=>by rw[h6 k hk j hj i hi,e k hk j hj i hi]⟩
theorem ColP.set (h:ColP g n cap P W){k j i:Nat}(hk:k<n)(hj:j<6)(hi:i<4){u:Value}(hu:noLimb u=true):
  ColP g n cap (fun k' j' i'=>if k'=k/\j'=j/\i'=i then u else P k' j' i') (W.setCell ⟨g,k*24+(j*4+i),none⟩ u):=by
 obtain⟨h1,h2,cs,h3,h4,h5,h6⟩:=h;refine⟨h1,h2,_,h3.set_ _ u,by rw[Array.size_setIfInBounds,h4],fun a v hv=> ?_,fun k' hk' j' hj' i' hi'=> ?_⟩
 ·
  rw[Array.getElem?_setIfInBounds] at hv
  split at hv
  ·
   split at hv
   ·cases hv;exact hu
   ·cases hv
  ·exact h5 a v hv
 ·
  rw[Array.getElem?_setIfInBounds]
  by_cases e:k'=k/\j'=j/\i'=i
  ·
   obtain⟨rfl,rfl,rfl⟩:=e;rw[if_pos rfl,if_pos (by omega)]
   dsimp only
   rw[if_pos ⟨rfl,rfl,rfl⟩]
  ·
   dsimp only
   rw[if_neg (by omega),if_neg e,h6 k' hk' j' hj' i' hi']
theorem FV.sepP {q:Rat}{s t:Bool}{A C:Option Addr}{a b:Nat}(hf:FV W q s A a t C b)(h:ColP g n cap P W)(i:Nat)(u:Value):FV (W.setCell ⟨g,i,none⟩ u) q s A a t C b:=by
 obtain⟨_,_,cs,h3,_,h5,_⟩:=h;exact hf.sep h3 (all_noLimb h5) u
def upd (h:Nat->Nat->Q8)(k j:Nat)(x:Q8):Nat->Nat->Q8:=fun k' j'=>if k'=k/\j'=j then x else h k' j'
def set4 (W:World)(g o:Nat)(x:Q8):World:=(((W.setCell ⟨g,o,none⟩ (.bool x.s)).setCell ⟨g,o+1,none⟩ (.slice x.A x.n x.c)).setCell ⟨g,o+2,none⟩ (.bool x.t)).setCell ⟨g,o+3,none⟩ (.slice x.B x.m x.d)
theorem ColB.set (hB:ColB g n cap h W){k j:Nat}(hk:k<n)(hj:j<6)(x:Q8):ColB g n cap (upd h k j x) (set4 W g (k*24+j*4) x):=by
 have h0:=ColP.set hB hk hj (show 0<4 by decide) (Q8.noL x 0);have h1:=ColP.set h0 hk hj (show 1<4 by decide) (Q8.noL x 1);have h2:=ColP.set h1 hk hj (show 2<4 by decide) (Q8.noL x 2);have h3:=ColP.set h2 hk hj (show 3<4 by decide) (Q8.noL x 3)
 refine ColP.congr h3 fun k' _ j' _ i' hi'=> ?_
 unfold upd
 by_cases e:k'=k/\j'=j
 ·
  obtain⟨rfl,rfl⟩:=e
  obtain rfl|rfl|rfl|rfl:i'=0\/i'=1\/i'=2\/i'=3:=by omega
  all_goals simp
 ·
  have hh:∀a,¬(k'=k/\j'=j/\i'=a):=fun a ha=>e ⟨ha.1,ha.2.1⟩
  simp only[if_neg (hh _),if_neg e]
theorem FV.set4 {q:Rat}{s t:Bool}{A C:Option Addr}{a b:Nat}(hf:FV W q s A a t C b)(hB:ColB g n cap h W){k j:Nat}(hk:k<n)(hj:j<6)(x:Q8):FV (Go.Proofs.YtclbiihcbfnjmaaGreat.set4 W g (k*24+j*4) x) q s A a t C b:=by
 have h0:=ColP.set hB hk hj (show 0<4 by decide) (Q8.noL x 0);have h1:=ColP.set h0 hk hj (show 1<4 by decide) (Q8.noL x 1);have h2:=ColP.set h1 hk hj (show 2<4 by decide) (Q8.noL x 2);exact(((hf.sepP hB _ _).sepP h0 _ _).sepP h1 _ _).sepP h2 _ _
theorem Blk.set4 {t:TypeId}{b:Nat}{cs:Array Value}(hb:Blk t b cs W)(hne:b≠g)(o:Nat)(x:Q8):Blk t b cs (Go.Proofs.YtclbiihcbfnjmaaGreat.set4 W g o x):=
 (((hb.far (p:=⟨g,_,none⟩) hne _).far (p:=⟨g,_,none⟩) hne _).far (p:=⟨g,_,none⟩) hne _).far (p:=⟨g,_,none⟩) hne _
theorem Blk.ne_col {t:TypeId}{b:Nat}{cs:Array Value}(hb:Blk t b cs W)(hB:ColP g n cap P W)(ht:t≠ 98):b≠g:=fun e=>by
 obtain⟨_,_,cs',h3,_⟩:=hB;subst e;have:=Option.some.inj (hb.symm.trans h3)
 injection this with _ e2 _
 exact ht e2
theorem Below.set4 {w:World}(hb:Below B w W)(hg:B<=g)(o:Nat)(x:Q8):Below B w (Go.Proofs.YtclbiihcbfnjmaaGreat.set4 W g o x):=
 (((hb.setCell (p:=⟨g,_,none⟩) hg _).setCell (p:=⟨g,_,none⟩) hg _).setCell (p:=⟨g,_,none⟩) hg _).setCell (p:=⟨g,_,none⟩) hg _
end
def ColV (b0:Nat)(v:Value)(n:Nat)(h:Nat->Nat->Q8)(W:World):Prop:=(v= .slice none 0 0/\n=0)\/∃g cap,v= .slice (some ⟨g,0,none⟩) n cap/\b0<=g/\ColB g n cap h W
section
variable {w w' W:World} {b0 n B:Nat} {v:Value} {h:Nat->Nat->Q8}
theorem ColV.stable (b0:Nat)(v:Value)(n:Nat)(h:Nat->Nat->Q8):Stable (ColV b0 v n h):=fun _ _ hb hv=>by
 rcases hv with hv|⟨g,cap,e,hg,hB⟩
 ·exact .inl hv
 ·exact .inr ⟨g,cap,e,hg,ColP.stable _ _ _ _ _ _ hb hB⟩
theorem cell_same {b o:Nat}(e:w'.heap[b]?=w.heap[b]?):w'.cell? ⟨b,o,none⟩=w.cell? ⟨b,o,none⟩:=by simp only[World.cell?,e]
theorem Rd.grownV {A:Option Addr}{m:Nat}{f:Nat->Nat}(hr:Rd w.heap.size .u16 w A m f)(hv:ColV b0 v n h w)(hg:w.grownBy w' v.ownBlock):Rd w'.heap.size .u16 w' A m f:=fun h0=>by
 obtain⟨b,o,e,hb,hc⟩:=hr h0;refine⟨b,o,e,Nat.lt_of_lt_of_le hb hg.size,fun i hi=> ?_⟩;have h1:=hc i hi;rw[cell_same (hg.block b hb fun e2=> ?_)]
 ·exact h1
 ·
  rcases hv with⟨rfl,_⟩|⟨g,cap,rfl,_,hB⟩
  ·cases e2
  ·
   obtain rfl:b=g:=by simpa [Value.ownBlock] using e2
   obtain⟨_,_,cs,h3,_,h5,_⟩:=hB;rw[h3.cell] at h1;exact absurd (h5 _ _ h1) (by simp[noLimb])
theorem WV.grownV {z:Int}{s:Bool}{A:Option Addr}{m:Nat}(hw:WV w z s A m)(hv:ColV b0 v n h w)(hg:w.grownBy w' v.ownBlock):WV w' z s A m:=⟨hw.1,hw.2.1,Rd.grownV hw.2.2 hv hg⟩
theorem FV.grownV {q:Rat}{s t:Bool}{A C:Option Addr}{a b:Nat}(hf:FV w q s A a t C b)(hv:ColV b0 v n h w)(hg:w.grownBy w' v.ownBlock):FV w' q s A a t C b:=⟨hf.1.grownV hv hg,hf.2.grownV hv hg⟩
theorem Blk.grownV {t:TypeId}{b:Nat}{cs:Array Value}(hb:Blk t b cs w)(hv:ColV b0 v n h w)(hg:w.grownBy w' v.ownBlock)(ht:t≠ 98):Blk t b cs w':=by
 refine(hg.block b hb.lt fun e2=> ?_).trans hb
 rcases hv with⟨rfl,_⟩|⟨g,cap,rfl,_,hB⟩
 ·cases e2
 ·
  obtain rfl:b=g:=by simpa [Value.ownBlock] using e2
  exact Blk.ne_col hb hB ht rfl
theorem Below.grownV (hb:Below B w W)(hv:ColV b0 v n h W)(hg:W.grownBy w' v.ownBlock)(hB:B<=b0)(hs:B<=W.heap.size):Below B w w':=by
 refine hb.grown hg hs fun q e=> ?_
 rcases hv with⟨rfl,_⟩|⟨g,cap,rfl,h1,_⟩
 ·cases e
 ·
  obtain rfl:g=q:=by simpa [Value.ownBlock] using e
  omega
end
def zcol :Value:= .agg #[.bool false,.slice none 0 0,.bool false,.slice none 0 0,.bool false,.slice none 0 0,.bool false,.slice none 0 0,.bool false,.slice none 0 0,.bool false,.slice none 0 0,.bool false,.slice none 0 0,.bool false,.slice none 0 0,.bool false,.slice none 0 0,.bool false,.slice none 0 0,.bool false,.slice none 0 0,.bool false,.slice none 0 0]
theorem info_col :(Tryz.prog.info? 98).map (fun i=>(i.zero,i.size,i.bytes))=some (some zcol,24,384):=by kernel_rfl
theorem col_points {olds rest:List Value}{n:Nat}{h:Nat->Nat->Q8}{x:Nat->Q8}(ho:olds.length=n*24)(hp:∀k,k<n->∀j,j<6->∀i,i<4->olds[k*24+(j*4+i)]?=some ((h k j).cell i)):
  ∀k,k<n+1->∀j,j<6->∀i,i<4->(olds++cols1 x++rest)[k*24+(j*4+i)]?=some (((if k=n then x else h k) j).cell i):=fun k hk j hj i hi=>by
 have hl:=cols1_len x
 by_cases e:k=n
 ·
  subst e;rw[if_pos rfl,List.append_assoc,List.getElem?_append_right (by omega),List.getElem?_append_left (by omega),cols1_at x (by omega)];rw[show(k*24+(j*4+i)-olds.length)/4=j by omega,show(k*24+(j*4+i)-olds.length)%4=i by omega]
 ·
  rw[if_neg e,List.append_assoc,List.getElem?_append_left (by omega)];exact hp k (by omega) j hj i hi
theorem no_limb3 {olds rest:List Value}{x:Nat->Q8}(h1:∀v,v∈olds->noLimb v=true)(h2:∀v,v∈rest->noLimb v=true){cs:Array Value}(e:cs.toList=olds++cols1 x++rest):∀(i:Nat) (v:Value),cs[i]?=some v->noLimb v=true:=fun i v hv=>by
 have hm:v∈cs.toList:=by rw[Array.mem_toList_iff];exact Array.mem_of_getElem? hv
 rw[e,List.append_assoc] at hm
 rcases List.mem_append.1 hm with hm|hm
 ·exact h1 v hm
 ·
  rcases List.mem_append.1 hm with hm|hm
  ·
   obtain⟨y,a,rfl⟩:=cols1_in hm;exact y.noL a
  ·exact h2 v hm
theorem zero_noL {m:Nat}:∀v,v∈(Builtin.zeroCells zcol.cells m).toList->noLimb v=true:=fun v hv=>by
 unfold Builtin.zeroCells at hv
 simp[zcol,Value.cells] at hv
 obtain⟨a,_,rfl⟩:=hv;have hb:a%24<24:=Nat.mod_lt _ (by decide);generalize a%24=b at hb
 rcases b with _|_|_|_|_|_|_|_|_|_|_|_|_|_|_|_|_|_|_|_|_|_|_|_|b
 all_goals first|rfl|omega
theorem append_col {w:World}(ty:TypeId){b0 n:Nat}{v:Value}{h:Nat->Nat->Q8}(hv:ColV b0 v n h w)(hb0:b0<=w.heap.size)(a:Addr)(c:Nat)(x:Nat->Q8)(hx:∀j u,(cols1 x)[j]?=some u->w.cell? (a.add j)=some u)(hn:n<=1000):
  ∃g cap w',(Builtin.append_ #[43,43] ty #[v,.slice (some a) 1 c]).run Tryz.prog w= .ok (.slice (some ⟨g,0,none⟩) (n+1) cap) w'/\b0<=g/\
   ColB g (n+1) cap (fun k=>if k=n then x else h k) w'/\w.grownBy w' v.ownBlock:=by
 obtain⟨i,hi,hz,hs,hby⟩:=info_parts info_col;have hund: Tryz.prog.underlying 43=some (.slice 98):= Tryz.underlying43
 have hl:(cols1 x).length=1*i.size:=by rw[cols1_len,hs]
 have hge:=fun old=>grownCap_ge w (n+1) old 98
 have hcm:=fun old=>grownCap_le_maxLen w (n+1) old 98 (show n+1<=maxLen by unfold maxLen;omega)
 have hzs:zcol.cells.size=24:=rfl
 rcases hv with⟨rfl,rfl⟩|⟨g,cap,rfl,hg,h1,h2,cs,h3,h4,h5,h6⟩
 ·
  have hr:=run_append_nil (P:= Tryz.prog) w 43 ty 98 i zcol hund hi hz a 1 c (cols1 x) hl hx (by decide) (by decide) (by rw[hby];decide);refine⟨_,_,_,hr,hb0,⟨hge 0,hcm 0,_,heap_alloc_new w.drew _, ?_, ?_, ?_⟩,⟨rfl,rfl,rfl,by simp,fun k hk _=>heap_alloc_old w.drew _ hk⟩⟩
  ·
   have h0:=hge 0;rw[Nat.zero_add] at h0;simp only[Array.size_append,List.size_toArray,size_zeroCells,hzs,cols1_len];omega
  ·exact no_limb3 (olds:=[]) (fun v hv=>absurd hv (by simp)) (zero_noL (m:=grownCap w 1 0 98-1)) (x:=x) (by simp)
  ·
   intro k hk j hj i hi;have:=col_points (olds:=[]) (rest:=(Builtin.zeroCells zcol.cells (grownCap w 1 0 98-1)).toList) (n:=0) (h:=h) (x:=x) rfl (fun k hk=>absurd hk (by omega)) k hk j hj i hi;rw[<-this,<-Array.getElem?_toList]
   simp
 ·
  have hlt:(cs.toList.take (n*24)).length=n*24:=by rw[List.length_take,Array.length_toList,h4];omega
  have hp:∀k,k<n->∀j,j<6->∀i,i<4->(cs.toList.take (n*24))[k*24+(j*4+i)]?=some ((h k j).cell i):=fun k hk j hj i hi=>by
   rw[List.getElem?_take_of_lt (by omega),Array.getElem?_toList];exact h6 k hk j hj i hi
  have hno:∀v,v∈cs.toList->noLimb v=true:=fun v hv=>by
   obtain⟨i,hi⟩:=List.getElem?_of_mem hv;exact h5 i v (by simpa using hi)
  by_cases hroom:n+1<=cap
  ·
   have hr:=run_append_room (P:= Tryz.prog) w 43 ty 98 i hund hi g n cap cs h3 a 1 c (cols1 x) hl hx (fun u hu=>by obtain⟨y,b,rfl⟩:=cols1_in hu;unfold Q8.cell;split<;>rfl) hroom (by rw[hs,cols1_len,h4];omega);rw[hs,cols1_len] at hr;refine⟨_,_,_,hr,hg,⟨hroom,h2,_,setRow_heap w g cs _ _ _ h3, ?_, ?_, ?_⟩,⟨rfl,rfl,rfl,by simp,fun k _ hk=>setRow_other w g k _ (fun e=>hk (by simp[Value.ownBlock,e]))⟩⟩
   ·
    simp only[List.size_toArray,List.length_append,hlt,cols1_len,List.length_drop,Array.length_toList,h4];omega
   ·exact no_limb3 (fun v hv=>hno v (List.mem_of_mem_take hv)) (fun v hv=>hno v (List.mem_of_mem_drop hv)) rfl
   ·
    intro k hk j hj i hi;rw[List.getElem?_toArray];exact col_points hlt hp k hk j hj i hi
  ·
   have hr:=run_append_grow (P:= Tryz.prog) w 43 ty 98 i zcol hund hi hz ⟨g,0,none⟩ n cap (cs.toList.take (n*24)) (by rw[hlt,hs]) (fun j u hu=>by
     rw[add_none0,h3.cell]
     have hj:j<n*24:=by
      have:=(List.getElem?_eq_some_iff.1 hu).1;omega
     rw[List.getElem?_take_of_lt hj,Array.getElem?_toList] at hu
     exact hu) a 1 c (cols1 x) hl hx (by omega) (by omega) (growslice_fits (by omega) (by rw[hby];omega))
   refine⟨_,_,_,hr,hb0,⟨hge cap,hcm cap,_,heap_alloc_new w.drew _, ?_, ?_, ?_⟩,⟨rfl,rfl,rfl,by simp,fun k hk _=>heap_alloc_old w.drew _ hk⟩⟩
   ·
    have:=hge cap;simp only[Array.size_append,List.size_toArray,size_zeroCells,hzs,cols1_len,hlt];omega
   ·exact no_limb3 (olds:=cs.toList.take (n*24)) (fun v hv=>hno v (List.mem_of_mem_take hv)) (zero_noL (m:=grownCap w (n+1) cap 98-(n+1))) (x:=x) (by simp)
   ·
    intro k hk j hj i hi;have:=col_points (rest:=(Builtin.zeroCells zcol.cells (grownCap w (n+1) cap 98-(n+1))).toList) (x:=x) hlt hp k hk j hj i hi;rw[<-this,<-Array.getElem?_toList]
    simp
def ColQ (h:Nat->Nat->Q8)(n:Nat)(J:Nat->Nat->Prop)(q:Nat->Nat->Rat)(W:World):Prop:=∀k,k<n->∀j,j<6->J k j->(h k j).fv W (q k j)
section
variable {w w' W:World} {g n cap b0:Nat} {v:Value} {P:Nat->Nat->Nat->Value} {h:Nat->Nat->Q8} {J:Nat->Nat->Prop} {q:Nat->Nat->Rat}
theorem ColQ.stable (h:Nat->Nat->Q8)(n:Nat)(J:Nat->Nat->Prop)(q:Nat->Nat->Rat):Stable (ColQ h n J q):=fun _ _ hb hq k hk j hj hJ=>FV.below (hq k hk j hj hJ) hb
theorem ColQ.to (hq:ColQ h n J q W)(hf:∀{q:Rat} {s t:Bool} {A C:Option Addr} {a b:Nat},FV W q s A a t C b->FV w' q s A a t C b):ColQ h n J q w':=fun k hk j hj hJ=>hf (hq k hk j hj hJ)
theorem ColQ.sub {J':Nat->Nat->Prop}(hq:ColQ h n J q W)(e:∀k,k<n->∀j,j<6->J' k j->J k j):ColQ h n J' q W:=fun k hk j hj hJ=>hq k hk j hj (e k hk j hj hJ)
theorem ColQ.set {x:Q8}{k j:Nat}{J':Nat->Nat->Prop}(hq:ColQ h n J q W)(hx:x.fv W (q k j))(e:∀k',k'<n->∀j',j'<6->J' k' j'->(k'=k/\j'=j)\/J k' j'):ColQ (upd h k j x) n J' q W:=fun k' hk' j' hj' hJ=>by
 unfold upd
 by_cases c:k'=k/\j'=j
 ·
  obtain⟨rfl,rfl⟩:=c;rw[if_pos ⟨rfl,rfl⟩];exact hx
 ·
  rw[if_neg c]
  rcases e k' hk' j' hj' hJ with c2|c2
  ·exact absurd c2 c
  ·exact hq k' hk' j' hj' c2
theorem ColQ.snoc {x:Nat->Q8}{J':Nat->Nat->Prop}(hq:ColQ h n J q W)(hx:∀j,j<6->J' n j->(x j).fv W (q n j))(e:∀k,k<n->∀j,j<6->J' k j->J k j):ColQ (fun k=>if k=n then x else h k) (n+1) J' q W:=fun k hk j hj hJ=>by
 by_cases c:k=n
 ·
  subst c;simp only[if_pos];exact hx j hj hJ
 ·
  simp only[if_neg c];exact hq k (by omega) j hj (e k (by omega) j hj hJ)
theorem ColP.far (hc:ColP g n cap P W){p:Addr}(hp:g≠p.block)(u:Value):ColP g n cap P (W.setCell p u):=by
 obtain⟨h1,h2,cs,h3,h4⟩:=hc;exact⟨h1,h2,cs,h3.far hp u,h4⟩
theorem ColV.far (hv:ColV b0 v n h W){R:Nat}{t:TypeId}{cs:Array Value}(hR:Blk t R cs W)(ht:t≠ 98)(i:Nat)(u:Value):ColV b0 v n h (W.setCell ⟨R,i,none⟩ u):=by
 rcases hv with hv|⟨g,cap,e,hg,hB⟩
 ·exact .inl hv
 ·exact .inr ⟨g,cap,e,hg,ColP.far hB (p:=⟨R,i,none⟩) (Ne.symm (Blk.ne_col hR hB ht)) u⟩
theorem ColV.far4 (hv:ColV b0 v n h W){R:Nat}{t:TypeId}{x y z u:Value}(hR:Blk t R #[x,y,z,u] W)(ht:t≠ 98)(a b c d:Value):ColV b0 v n h ((((W.setCell ⟨R,0,none⟩ a).setCell ⟨R,1,none⟩ b).setCell ⟨R,2,none⟩ c).setCell ⟨R,3,none⟩ d):=
 (((hv.far hR ht 0 a).far (hR.set_ 0 a) ht 1 b).far ((hR.set_ 0 a).set_ 1 b) ht 2 c).far (((hR.set_ 0 a).set_ 1 b).set_ 2 c) ht 3 d
theorem ColQ.sep4 (hq:ColQ h n J q W){R:Nat}{t:TypeId}{x y z u:Value}(hR:Blk t R #[x,y,z,u] W)(hn: [x,y,z,u].all noLimb=true)(a b c d:Value)(ha:noLimb a=true)(hb:noLimb b=true)(hc:noLimb c=true):
  ColQ h n J q ((((W.setCell ⟨R,0,none⟩ a).setCell ⟨R,1,none⟩ b).setCell ⟨R,2,none⟩ c).setCell ⟨R,3,none⟩ d):=hq.to fun hf=>hf.sep4 hR hn a b c d ha hb hc
theorem Env.colv {P:World->Prop}(hE:Env w P W)(hv:ColV b0 v n h W):Env w (fun V=>P V/\ColV b0 v n h V) W:=hE.and (ColV.stable _ _ _ _) hv
theorem Env.colp {P':World->Prop}(hE:Env w P' W)(hv:ColP g n cap P W):Env w (fun V=>P' V/\ColP g n cap P V) W:=hE.and (ColP.stable _ _ _ _) hv
theorem Env.colq {P:World->Prop}(hE:Env w P W)(hv:ColQ h n J q W):Env w (fun V=>P V/\ColQ h n J q V) W:=hE.and (ColQ.stable _ _ _ _) hv
end
end
section
open Go.RowKit

section
variable {t:TypeId} {g:Nat} {w:World} {a b c d e f x y z u:Value}
theorem Blk.c7 (h:Blk t g #[a,b,c,d,e,f,x] w):w.cell? ⟨g,0,none⟩=some a/\w.cell? ⟨g,1,none⟩=some b/\w.cell? ⟨g,2,none⟩=some c/\w.cell? ⟨g,3,none⟩=some d/\w.cell? ⟨g,4,none⟩=some e/\w.cell? ⟨g,5,none⟩=some f/\w.cell? ⟨g,6,none⟩=some x:=
 ⟨h.cell 0,h.cell 1,h.cell 2,h.cell 3,h.cell 4,h.cell 5,h.cell 6⟩
theorem Blk.c10 (h:Blk t g #[a,b,c,d,e,f,x,y,z,u] w):w.cell? ⟨g,0,none⟩=some a/\w.cell? ⟨g,1,none⟩=some b/\w.cell? ⟨g,2,none⟩=some c/\w.cell? ⟨g,3,none⟩=some d/\w.cell? ⟨g,4,none⟩=some e/\w.cell? ⟨g,5,none⟩=some f/\w.cell? ⟨g,6,none⟩=some x/\w.cell? ⟨g,7,none⟩=some y/\w.cell? ⟨g,8,none⟩=some z/\w.cell? ⟨g,9,none⟩=some u:=
 ⟨h.cell 0,h.cell 1,h.cell 2,h.cell 3,h.cell 4,h.cell 5,h.cell 6,h.cell 7,h.cell 8,h.cell 9⟩
end
def intB (s:Bool)(n:Nat)(f:Nat->Nat)(t:Bool)(m:Nat)(g:Nat->Nat):Bool:=okF s n f t m g&&(!s&&(decide (n<=1)&&decide (m<=1)))
def BOK (F S:Int)(n:Nat)(r:Nat->RH)(si:Bool)(ni:Nat)(fi:Nat->Nat)(ti:Bool)(mi:Nat)(gi:Nat->Nat):Prop:=TOK F S n r/\intB si ni fi ti mi gi=true
theorem intB_rti {w:World}{s t:Bool}{A B:Option Addr}{n m:Nat}{f g:Nat->Nat}(hr:FRd w A n f B m g)(h:intB s n f t m g=true):FV w (qOf s n f m g) s A n t B m/\Rti (qOf s n f m g):=by
 unfold intB at h;simp only[Bool.and_eq_true,Bool.not_eq_true',decide_eq_true_eq] at h;obtain⟨h1,rfl,h3,h4⟩:=h;obtain⟨hv,-,-,-⟩:=okF_q hr h1;refine⟨hv, ?_, ?_, ?_⟩
 ·
  have:=hv.1.sgn;have:=of_decide_eq_false this.symm;exact Rat.num_nonneg.1 (by omega)
 ·
  have:=hv.1.len
  simpa using(ln_le b16_two).1 (show ln b16 (qOf false n f m g).num.natAbs<=1 by omega)
 ·
  have:=hv.2.len;rw[Int.natAbs_natCast] at this
  simpa using(ln_le b16_two).1 (show ln b16 (qOf false n f m g).den<=1 by omega)
theorem cplus_v {a b:Rat}{sa ta sb tb:Bool}{Aa Ba Ab Bb:Option Addr}{na ca ma da nb cb mb db:Nat}{w:World}(ha:FV w a sa Aa na ta Ba ma)(hb:FV w b sb Ab nb tb Bb mb)(la:fl a<=256)(lb:fl b<=256)(lr:fl (a+b)<=256):
  Calls Tryz.prog 108 #[.agg (qf4 sa Aa na ca ta Ba ma da),.agg (qf4 sb Ab nb cb tb Bb mb db)] w (FR (a+b) w):=by
 have hE:=((((Env.start w).fv ha).fv hb).blk 29 (qf4 sa Aa na ca ta Ba ma da) (g:=w.heap.size) rfl).blk 29 (qf4 sb Ab nb cb tb Bb mb db) (g:=w.heap.size+1) (by simp);have hE:=hE.blk 29 qz4 (g:=w.heap.size+1+1) (by simp)
 obtain⟨W0,hW0⟩:∃W0,W0=(((w.alloc (.cells (qf4 sa Aa na ca ta Ba ma da) 29)).alloc (.cells (qf4 sb Ab nb cb tb Bb mb db) 29)).alloc (.cells qz4 29)):=⟨_,rfl⟩
 rw[<-hW0] at hE;have HW0:=Lib.hid hW0;clear hW0
 go_enter Tryz.func108,Tryz.ntmps108
 go_upto_region 1 with(fail)
 rw[<-HW0.out];obtain⟨k1,k2,k3,k4⟩:=(hE.h2).c4;obtain⟨k5,k6,k7,k8⟩:=(hE.here.1.2).c4;go_wp2_with fail
 refine hE.fr (fadd_v (ca:=ca) (da:=da) (cb:=cb) (db:=db) hE.h4 hE.h3 la lb lr) ?_;clear hE k1 k2 k3 k4 k5 k6 k7 k8;intro sr Ar nr cr tr Br mr dr w9 hE
 go_upto_region 2 with(fail)
 obtain⟨g10,hg10⟩:∃g10,g10=w9.heap.size:=⟨_,rfl⟩
 have hl10_2:w.heap.size<g10:=by rw[hg10];exact(hE.h3).lt
 have hl10_3:w.heap.size+1<g10:=by rw[hg10];exact(hE.h2).lt
 have hl10_4:w.heap.size+1+1<g10:=by rw[hg10];exact(hE.here.1.2).lt
 replace hE:=hE.blk 29 (qf4 sr Ar nr cr tr Br mr dr) (g:=g10) hg10.symm;generalize w9.alloc (.cells (qf4 sr Ar nr cr tr Br mr dr) 29)=W10 at hE⊢;rw[<-hg10];clear hg10;obtain⟨k11,k12,k13,k14⟩:=(hE.here.2).c4
 have hRl:w.heap.size<=w.heap.size+1+1:=by omega
 obtain⟨WW,hWW,hB,hV,hBel⟩:=ret_frac hE hE.h2 hRl hE.here.1.2 cr dr;obtain⟨x0,x1,x2,x3⟩:=(hE.h2).c4;obtain⟨fz0,fz1,fz2,fz3⟩:=hE.h2.f4;have HWW:=Lib.hid hWW;clear hWW;go_wp2_with fail
 clear k11 k12 k13 k14;rw[<-HWW.out];obtain⟨y0,y1,y2,y3⟩:=hB.c4;refine bodyPost_ret (v:= .agg (qf4 sr Ar nr cr tr Br mr dr)) (by simp[results,Tryz.results108,go_sem,y0,y1,y2,y3]) rfl ?_;exact⟨sr,Ar,nr,cr,tr,Br,mr,dr,rfl,hV,hBel⟩
theorem cminus_v {a b:Rat}{sa ta sb tb:Bool}{Aa Ba Ab Bb:Option Addr}{na ca ma da nb cb mb db:Nat}{w:World}(ha:FV w a sa Aa na ta Ba ma)(hb:FV w b sb Ab nb tb Bb mb)(la:fl a<=256)(lb:fl b<=256)(lr:fl (a-b)<=256):
  Calls Tryz.prog 107 #[.agg (qf4 sa Aa na ca ta Ba ma da),.agg (qf4 sb Ab nb cb tb Bb mb db)] w (FR (a-b) w):=by
 have hE:=((((Env.start w).fv ha).fv hb).blk 29 (qf4 sa Aa na ca ta Ba ma da) (g:=w.heap.size) rfl).blk 29 (qf4 sb Ab nb cb tb Bb mb db) (g:=w.heap.size+1) (by simp);have hE:=hE.blk 29 qz4 (g:=w.heap.size+1+1) (by simp)
 obtain⟨W0,hW0⟩:∃W0,W0=(((w.alloc (.cells (qf4 sa Aa na ca ta Ba ma da) 29)).alloc (.cells (qf4 sb Ab nb cb tb Bb mb db) 29)).alloc (.cells qz4 29)):=⟨_,rfl⟩
 rw[<-hW0] at hE;have HW0:=Lib.hid hW0;clear hW0
 go_enter Tryz.func107,Tryz.ntmps107
 go_upto_region 1 with(fail)
 rw[<-HW0.out];obtain⟨k1,k2,k3,k4⟩:=(hE.h2).c4;obtain⟨k5,k6,k7,k8⟩:=(hE.here.1.2).c4;go_wp2_with fail
 refine hE.fr (fsub_v (ca:=ca) (da:=da) (cb:=cb) (db:=db) hE.h4 hE.h3 la lb lr) ?_;clear hE k1 k2 k3 k4 k5 k6 k7 k8;intro sr Ar nr cr tr Br mr dr w9 hE
 go_upto_region 2 with(fail)
 obtain⟨g10,hg10⟩:∃g10,g10=w9.heap.size:=⟨_,rfl⟩
 have hl10_2:w.heap.size<g10:=by rw[hg10];exact(hE.h3).lt
 have hl10_3:w.heap.size+1<g10:=by rw[hg10];exact(hE.h2).lt
 have hl10_4:w.heap.size+1+1<g10:=by rw[hg10];exact(hE.here.1.2).lt
 replace hE:=hE.blk 29 (qf4 sr Ar nr cr tr Br mr dr) (g:=g10) hg10.symm;generalize w9.alloc (.cells (qf4 sr Ar nr cr tr Br mr dr) 29)=W10 at hE⊢;rw[<-hg10];clear hg10;obtain⟨k11,k12,k13,k14⟩:=(hE.here.2).c4
 have hRl:w.heap.size<=w.heap.size+1+1:=by omega
 obtain⟨WW,hWW,hB,hV,hBel⟩:=ret_frac hE hE.h2 hRl hE.here.1.2 cr dr;obtain⟨x0,x1,x2,x3⟩:=(hE.h2).c4;obtain⟨fz0,fz1,fz2,fz3⟩:=hE.h2.f4;have HWW:=Lib.hid hWW;clear hWW;go_wp2_with fail
 clear k11 k12 k13 k14;rw[<-HWW.out];obtain⟨y0,y1,y2,y3⟩:=hB.c4;refine bodyPost_ret (v:= .agg (qf4 sr Ar nr cr tr Br mr dr)) (by simp[results,Tryz.results107,go_sem,y0,y1,y2,y3]) rfl ?_;exact⟨sr,Ar,nr,cr,tr,Br,mr,dr,rfl,hV,hBel⟩
theorem ctimes_v {a b:Rat}{sa ta sb tb:Bool}{Aa Ba Ab Bb:Option Addr}{na ca ma da nb cb mb db:Nat}{w:World}(ha:FV w a sa Aa na ta Ba ma)(hb:FV w b sb Ab nb tb Bb mb)(la:fl a<=256)(lb:fl b<=256)(lr:fl (a*b)<=256):
  Calls Tryz.prog 106 #[.agg (qf4 sa Aa na ca ta Ba ma da),.agg (qf4 sb Ab nb cb tb Bb mb db)] w (FR (a*b) w):=by
 have hE:=((((Env.start w).fv ha).fv hb).blk 29 (qf4 sa Aa na ca ta Ba ma da) (g:=w.heap.size) rfl).blk 29 (qf4 sb Ab nb cb tb Bb mb db) (g:=w.heap.size+1) (by simp);have hE:=hE.blk 29 qz4 (g:=w.heap.size+1+1) (by simp)
 obtain⟨W0,hW0⟩:∃W0,W0=(((w.alloc (.cells (qf4 sa Aa na ca ta Ba ma da) 29)).alloc (.cells (qf4 sb Ab nb cb tb Bb mb db) 29)).alloc (.cells qz4 29)):=⟨_,rfl⟩
 rw[<-hW0] at hE;have HW0:=Lib.hid hW0;clear hW0
 go_enter Tryz.func106,Tryz.ntmps106
 go_upto_region 1 with(fail)
 rw[<-HW0.out];obtain⟨k1,k2,k3,k4⟩:=(hE.h2).c4;obtain⟨k5,k6,k7,k8⟩:=(hE.here.1.2).c4;go_wp2_with fail
 refine hE.fr (fmul_v (ca:=ca) (da:=da) (cb:=cb) (db:=db) hE.h4 hE.h3 la lb lr) ?_;clear hE k1 k2 k3 k4 k5 k6 k7 k8;intro sr Ar nr cr tr Br mr dr w9 hE
 go_upto_region 2 with(fail)
 obtain⟨g10,hg10⟩:∃g10,g10=w9.heap.size:=⟨_,rfl⟩
 have hl10_2:w.heap.size<g10:=by rw[hg10];exact(hE.h3).lt
 have hl10_3:w.heap.size+1<g10:=by rw[hg10];exact(hE.h2).lt
 have hl10_4:w.heap.size+1+1<g10:=by rw[hg10];exact(hE.here.1.2).lt
 replace hE:=hE.blk 29 (qf4 sr Ar nr cr tr Br mr dr) (g:=g10) hg10.symm;generalize w9.alloc (.cells (qf4 sr Ar nr cr tr Br mr dr) 29)=W10 at hE⊢;rw[<-hg10];clear hg10;obtain⟨k11,k12,k13,k14⟩:=(hE.here.2).c4
 have hRl:w.heap.size<=w.heap.size+1+1:=by omega
 obtain⟨WW,hWW,hB,hV,hBel⟩:=ret_frac hE hE.h2 hRl hE.here.1.2 cr dr;obtain⟨x0,x1,x2,x3⟩:=(hE.h2).c4;obtain⟨fz0,fz1,fz2,fz3⟩:=hE.h2.f4;have HWW:=Lib.hid hWW;clear hWW;go_wp2_with fail
 clear k11 k12 k13 k14;rw[<-HWW.out];obtain⟨y0,y1,y2,y3⟩:=hB.c4;refine bodyPost_ret (v:= .agg (qf4 sr Ar nr cr tr Br mr dr)) (by simp[results,Tryz.results106,go_sem,y0,y1,y2,y3]) rfl ?_;exact⟨sr,Ar,nr,cr,tr,Br,mr,dr,rfl,hV,hBel⟩
theorem cvalid_any (F S:Int)(A:Option Addr)(n c:Nat)(r:Nat->RH)(si ti:Bool)(Ai Bi:Option Addr)(ni mi ci di:Nat)(fi gi:Nat->Nat)(w:World)(hT:TabM w A n r)(hB:TabB n r)(hr:FRd w Ai ni fi Bi mi gi)(hn:ni<=1000000)(hm:mi<=1000000):
  Calls Tryz.prog 83 #[.agg (qb7 F S A n c si Ai ni ci ti Bi mi di)] w (BoolIff (BOK F S n r si ni fi ti mi gi) w):=by
 by_cases hok:TOK F S n r
 ·
  cases hv:okF si ni fi ti mi gi with
  |false=>
   have HN:Hid (¬BOK F S n r si ni fi ti mi gi):=Lib.hid (fun h=>by have h2:=h.2;unfold intB at h2;rw[hv] at h2;simp at h2);have hE:=((Env.start w).tab hT).blk 31 (qb7 F S A n c si Ai ni ci ti Bi mi di) (g:=w.heap.size) rfl
   obtain⟨W0,hW0⟩:∃W0,W0=(w.alloc (.cells (qb7 F S A n c si Ai ni ci ti Bi mi di) 31)):=⟨_,rfl⟩
   rw[<-hW0] at hE;have HW0:=Lib.hid hW0;clear hW0
   go_enter Tryz.func83,Tryz.ntmps83
   go_upto_region 1 with(fail)
   rw[<-HW0.out];obtain⟨k1,k2,k3,k4,k5,k6,k7⟩:=(hE.here.2).c7
   go_upto_region 2 with(fail)
   clear k1 k2 k3 k4 k5 k6 k7
   obtain⟨g8,hg8⟩:∃g8,g8=W0.heap.size:=⟨_,rfl⟩
   have hl8_1:w.heap.size<g8:=by rw[hg8];exact(hE.here.2).lt
   replace hE:=hE.blk 29 (qf4 si Ai ni ci ti Bi mi di) (g:=g8) hg8.symm;generalize W0.alloc (.cells (qf4 si Ai ni ci ti Bi mi di) 29)=W8 at hE⊢;rw[<-hg8];clear hg8;obtain⟨k9,k10,k11,k12,k13,k14,k15⟩:=(hE.here.1.2).c7;go_wp2_with fail
   refine hE.br (lvalid_t (c:=c) hE.h2 hB hok) ?_;clear hE k9 k10 k11 k12 k13 k14 k15;intro w16 hE;obtain⟨k17,k18,k19,k20⟩:=(hE.here.2).c4;go_wp2_with fail
   refine hE.br (fvalid_r si ti Ai Bi ni mi ci di fi gi _ (hr.below hE.bel) hn hm _ hv) ?_;clear hE k17 k18 k19 k20;intro w21 hE;go_wp2_with fail
   go_ret
   exact⟨false,rfl,no_iff HN.out,hE.bel⟩
  |true=>
   cases si with
   |true=>
    have HN:Hid (¬BOK F S n r true ni fi ti mi gi):=Lib.hid (fun h=>by have h2:=h.2;unfold intB at h2;rw[hv] at h2;simp at h2);have hE:=((Env.start w).tab hT).blk 31 (qb7 F S A n c true Ai ni ci ti Bi mi di) (g:=w.heap.size) rfl
    obtain⟨W0,hW0⟩:∃W0,W0=(w.alloc (.cells (qb7 F S A n c true Ai ni ci ti Bi mi di) 31)):=⟨_,rfl⟩
    rw[<-hW0] at hE;have HW0:=Lib.hid hW0;clear hW0
    go_enter Tryz.func83,Tryz.ntmps83
    go_upto_region 1 with(fail)
    rw[<-HW0.out];obtain⟨k1,k2,k3,k4,k5,k6,k7⟩:=(hE.here.2).c7
    go_upto_region 2 with(fail)
    clear k1 k2 k3 k4 k5 k6 k7
    obtain⟨g8,hg8⟩:∃g8,g8=W0.heap.size:=⟨_,rfl⟩
    have hl8_1:w.heap.size<g8:=by rw[hg8];exact(hE.here.2).lt
    replace hE:=hE.blk 29 (qf4 true Ai ni ci ti Bi mi di) (g:=g8) hg8.symm;generalize W0.alloc (.cells (qf4 true Ai ni ci ti Bi mi di) 29)=W8 at hE⊢;rw[<-hg8];clear hg8;obtain⟨k9,k10,k11,k12,k13,k14,k15⟩:=(hE.here.1.2).c7;go_wp2_with fail
    refine hE.br (lvalid_t (c:=c) hE.h2 hB hok) ?_;clear hE k9 k10 k11 k12 k13 k14 k15;intro w16 hE;obtain⟨k17,k18,k19,k20⟩:=(hE.here.2).c4;go_wp2_with fail
    refine hE.br (fvalid_r true ti Ai Bi ni mi ci di fi gi _ (hr.below hE.bel) hn hm _ hv) ?_;clear hE k17 k18 k19 k20;intro w21 hE;obtain⟨k22,k23,k24,k25⟩:=(hE.here.2).c4;go_wp2_with fail
    go_ret
    exact⟨false,rfl,no_iff HN.out,hE.bel⟩
   |false=>
    by_cases h1:ni<=1
    ·
     have t1:decide ((ni:Int)<=1)=true:=decide_eq_true (by omega)
     by_cases h2:mi<=1
     ·
      have t2:decide ((mi:Int)<=1)=true:=decide_eq_true (by omega);have HN:Hid (BOK F S n r false ni fi ti mi gi):=Lib.hid ⟨hok,by unfold intB;rw[hv,decide_eq_true h1,decide_eq_true h2];rfl⟩;have hE:=((Env.start w).tab hT).blk 31 (qb7 F S A n c false Ai ni ci ti Bi mi di) (g:=w.heap.size) rfl
      obtain⟨W0,hW0⟩:∃W0,W0=(w.alloc (.cells (qb7 F S A n c false Ai ni ci ti Bi mi di) 31)):=⟨_,rfl⟩
      rw[<-hW0] at hE;have HW0:=Lib.hid hW0;clear hW0
      go_enter Tryz.func83,Tryz.ntmps83
      go_upto_region 1 with(fail)
      rw[<-HW0.out];obtain⟨k1,k2,k3,k4,k5,k6,k7⟩:=(hE.here.2).c7
      go_upto_region 2 with(fail)
      clear k1 k2 k3 k4 k5 k6 k7
      obtain⟨g8,hg8⟩:∃g8,g8=W0.heap.size:=⟨_,rfl⟩
      have hl8_1:w.heap.size<g8:=by rw[hg8];exact(hE.here.2).lt
      replace hE:=hE.blk 29 (qf4 false Ai ni ci ti Bi mi di) (g:=g8) hg8.symm;generalize W0.alloc (.cells (qf4 false Ai ni ci ti Bi mi di) 29)=W8 at hE⊢;rw[<-hg8];clear hg8;obtain⟨k9,k10,k11,k12,k13,k14,k15⟩:=(hE.here.1.2).c7;go_wp2_with fail
      refine hE.br (lvalid_t (c:=c) hE.h2 hB hok) ?_;clear hE k9 k10 k11 k12 k13 k14 k15;intro w16 hE;obtain⟨k17,k18,k19,k20⟩:=(hE.here.2).c4;go_wp2_with fail
      refine hE.br (fvalid_r false ti Ai Bi ni mi ci di fi gi _ (hr.below hE.bel) hn hm _ hv) ?_;clear hE k17 k18 k19 k20;intro w21 hE;obtain⟨k22,k23,k24,k25⟩:=(hE.here.2).c4;go_wp2_with fail
      go_ret
      exact⟨true,rfl,yes_iff HN.out,hE.bel⟩
     ·
      have t2:decide ((mi:Int)<=1)=false:=decide_eq_false (by omega);have HN:Hid (¬BOK F S n r false ni fi ti mi gi):=Lib.hid (fun h=>by have h3:=h.2;unfold intB at h3;rw[hv,decide_eq_true h1,decide_eq_false h2] at h3;simp at h3);have hE:=((Env.start w).tab hT).blk 31 (qb7 F S A n c false Ai ni ci ti Bi mi di) (g:=w.heap.size) rfl
      obtain⟨W0,hW0⟩:∃W0,W0=(w.alloc (.cells (qb7 F S A n c false Ai ni ci ti Bi mi di) 31)):=⟨_,rfl⟩
      rw[<-hW0] at hE;have HW0:=Lib.hid hW0;clear hW0
      go_enter Tryz.func83,Tryz.ntmps83
      go_upto_region 1 with(fail)
      rw[<-HW0.out];obtain⟨k1,k2,k3,k4,k5,k6,k7⟩:=(hE.here.2).c7
      go_upto_region 2 with(fail)
      clear k1 k2 k3 k4 k5 k6 k7
      obtain⟨g8,hg8⟩:∃g8,g8=W0.heap.size:=⟨_,rfl⟩
      have hl8_1:w.heap.size<g8:=by rw[hg8];exact(hE.here.2).lt
      replace hE:=hE.blk 29 (qf4 false Ai ni ci ti Bi mi di) (g:=g8) hg8.symm;generalize W0.alloc (.cells (qf4 false Ai ni ci ti Bi mi di) 29)=W8 at hE⊢;rw[<-hg8];clear hg8;obtain⟨k9,k10,k11,k12,k13,k14,k15⟩:=(hE.here.1.2).c7;go_wp2_with fail
      refine hE.br (lvalid_t (c:=c) hE.h2 hB hok) ?_;clear hE k9 k10 k11 k12 k13 k14 k15;intro w16 hE;obtain⟨k17,k18,k19,k20⟩:=(hE.here.2).c4;go_wp2_with fail
      refine hE.br (fvalid_r false ti Ai Bi ni mi ci di fi gi _ (hr.below hE.bel) hn hm _ hv) ?_;clear hE k17 k18 k19 k20;intro w21 hE;obtain⟨k22,k23,k24,k25⟩:=(hE.here.2).c4;go_wp2_with fail
      go_ret
      exact⟨false,rfl,no_iff HN.out,hE.bel⟩
    ·
     have t1:decide ((ni:Int)<=1)=false:=decide_eq_false (by omega);have HN:Hid (¬BOK F S n r false ni fi ti mi gi):=Lib.hid (fun h=>by have h3:=h.2;unfold intB at h3;rw[hv,decide_eq_false h1] at h3;simp at h3);have hE:=((Env.start w).tab hT).blk 31 (qb7 F S A n c false Ai ni ci ti Bi mi di) (g:=w.heap.size) rfl
     obtain⟨W0,hW0⟩:∃W0,W0=(w.alloc (.cells (qb7 F S A n c false Ai ni ci ti Bi mi di) 31)):=⟨_,rfl⟩
     rw[<-hW0] at hE;have HW0:=Lib.hid hW0;clear hW0
     go_enter Tryz.func83,Tryz.ntmps83
     go_upto_region 1 with(fail)
     rw[<-HW0.out];obtain⟨k1,k2,k3,k4,k5,k6,k7⟩:=(hE.here.2).c7
     go_upto_region 2 with(fail)
     clear k1 k2 k3 k4 k5 k6 k7
     obtain⟨g8,hg8⟩:∃g8,g8=W0.heap.size:=⟨_,rfl⟩
     have hl8_1:w.heap.size<g8:=by rw[hg8];exact(hE.here.2).lt
     replace hE:=hE.blk 29 (qf4 false Ai ni ci ti Bi mi di) (g:=g8) hg8.symm;generalize W0.alloc (.cells (qf4 false Ai ni ci ti Bi mi di) 29)=W8 at hE⊢;rw[<-hg8];clear hg8;obtain⟨k9,k10,k11,k12,k13,k14,k15⟩:=(hE.here.1.2).c7;go_wp2_with fail
     refine hE.br (lvalid_t (c:=c) hE.h2 hB hok) ?_;clear hE k9 k10 k11 k12 k13 k14 k15;intro w16 hE;obtain⟨k17,k18,k19,k20⟩:=(hE.here.2).c4;go_wp2_with fail
     refine hE.br (fvalid_r false ti Ai Bi ni mi ci di fi gi _ (hr.below hE.bel) hn hm _ hv) ?_;clear hE k17 k18 k19 k20;intro w21 hE;obtain⟨k22,k23,k24,k25⟩:=(hE.here.2).c4;go_wp2_with fail
     go_ret
     exact⟨false,rfl,no_iff HN.out,hE.bel⟩
 ·
  have HN:Hid (¬BOK F S n r si ni fi ti mi gi):=Lib.hid (fun h=>hok h.1);have hE:=((Env.start w).tab hT).blk 31 (qb7 F S A n c si Ai ni ci ti Bi mi di) (g:=w.heap.size) rfl
  obtain⟨W0,hW0⟩:∃W0,W0=(w.alloc (.cells (qb7 F S A n c si Ai ni ci ti Bi mi di) 31)):=⟨_,rfl⟩
  rw[<-hW0] at hE;have HW0:=Lib.hid hW0;clear hW0
  go_enter Tryz.func83,Tryz.ntmps83
  go_upto_region 1 with(fail)
  rw[<-HW0.out];obtain⟨k1,k2,k3,k4,k5,k6,k7⟩:=(hE.here.2).c7
  go_upto_region 2 with(fail)
  clear k1 k2 k3 k4 k5 k6 k7
  obtain⟨g8,hg8⟩:∃g8,g8=W0.heap.size:=⟨_,rfl⟩
  have hl8_1:w.heap.size<g8:=by rw[hg8];exact(hE.here.2).lt
  replace hE:=hE.blk 29 (qf4 si Ai ni ci ti Bi mi di) (g:=g8) hg8.symm;generalize W0.alloc (.cells (qf4 si Ai ni ci ti Bi mi di) 29)=W8 at hE⊢;rw[<-hg8];clear hg8;obtain⟨k9,k10,k11,k12,k13,k14,k15⟩:=(hE.here.1.2).c7;go_wp2_with fail
  refine hE.br (lvalid_f (c:=c) hE.h2 hB hok) ?_;clear hE k9 k10 k11 k12 k13 k14 k15;intro w16 hE;go_wp2_with fail
  go_ret
  exact⟨false,rfl,no_iff HN.out,hE.bel⟩
theorem cvalid_t {F S:Int}{A:Option Addr}{n c:Nat}{r:Nat->RH}{si ti:Bool}{Ai Bi:Option Addr}{ni mi ci di:Nat}{fi gi:Nat->Nat}{w:World}(hT:TabM w A n r)(hB:TabB n r)(hr:FRd w Ai ni fi Bi mi gi)(hn:ni<=1000000)(hm:mi<=1000000)(h:BOK F S n r si ni fi ti mi gi):
  Calls Tryz.prog 83 #[.agg (qb7 F S A n c si Ai ni ci ti Bi mi di)] w fun e w'=>e= .returned (.bool true)/\Below w.heap.size w w':=
 (cvalid_any F S A n c r si ti Ai Bi ni mi ci di fi gi w hT hB hr hn hm).mono fun _ _ ⟨v,he,hv,hb⟩=>by obtain rfl:v=true:=hv.2 h;exact⟨he,hb⟩
theorem Rti.nz {i:Rat}(h:Rti i):(1+i).num≠0:=fun e=>by
 have h1:=Rat.num_eq_zero.1 e;have:=h.1
 grind
theorem cdiscount_v {F S:Int}{A:Option Addr}{n c:Nat}{si ti:Bool}{Ai Bi:Option Addr}{ni ci mi di:Nat}{q:Rat}{w:World}(hq:FV w q si Ai ni ti Bi mi)(hi:Rti q):
  Calls Tryz.prog 105 #[.agg (qb7 F S A n c si Ai ni ci ti Bi mi di)] w (FR (1/(1+q)) w):=by
 have l1:=hi.one;have l0:=hi.fl;have lv:=hi.dis.ql.l (by decide) (by decide) (by decide);have hnz:(1+q).num≠0:=hi.nz;have Hl1:=Lib.hid l1;clear l1;have Hl0:=Lib.hid l0;clear l0;have Hlv:=Lib.hid lv;clear lv;have Hhi:=Lib.hid hi;clear hi;have Hhnz:=Lib.hid hnz;clear hnz;have hE:=((Env.start w).fv hq).blk 31 (qb7 F S A n c si Ai ni ci ti Bi mi di) (g:=w.heap.size) rfl;have hE:=hE.blk 29 qz4 (g:=w.heap.size+1) (by simp)
 obtain⟨W0,hW0⟩:∃W0,W0=((w.alloc (.cells (qb7 F S A n c si Ai ni ci ti Bi mi di) 31)).alloc (.cells qz4 29)):=⟨_,rfl⟩
 rw[<-hW0] at hE;have HW0:=Lib.hid hW0;clear hW0
 go_enter Tryz.func105,Tryz.ntmps105
 go_upto_region 1 with(fail)
 rw[<-HW0.out]
 go_cut [3,4] from 5 to 14 (fun p0 p1 wx=>∃G1 sv Av nv cv tv Bv mv dv,p0= .pointer (some ⟨G1,0,none⟩)/\p1= .int .i64 0/\w.heap.size+1<G1/\Env w (fun V=>(((((True/\FV V q si Ai ni ti Bi mi)/\Blk 31 (w.heap.size) (qb7 F S A n c si Ai ni ci ti Bi mi di) V)/\Blk 29 (w.heap.size+1) qz4 V)/\FV V (1/(1+q)) sv Av nv tv Bv mv)/\Blk 29 (G1) (qf4 sv Av nv cv tv Bv mv dv) V)) wx)
 case first=>
  replace hE:=hE.drew;refine wp_region_held_drew (S:=fun w'=>w'.cell? ⟨w.heap.size,0,none⟩=some (.int .i64 F)/\w'.cell? ⟨w.heap.size,1,none⟩=some (.int .i64 S)/\w'.cell? ⟨w.heap.size,2,none⟩=some (.slice A n c)/\w'.cell? ⟨w.heap.size,3,none⟩=some (.bool si)/\w'.cell? ⟨w.heap.size,4,none⟩=some (.slice Ai ni ci)/\w'.cell? ⟨w.heap.size,5,none⟩=some (.bool ti)/\w'.cell? ⟨w.heap.size,6,none⟩=some (.slice Bi mi di)) (by kernel_rfl) (⟨(hE.here.1.2).c7.1,(hE.here.1.2).c7.2.1,(hE.here.1.2).c7.2.2.1,(hE.here.1.2).c7.2.2.2.1,(hE.here.1.2).c7.2.2.2.2.1,(hE.here.1.2).c7.2.2.2.2.2.1,(hE.here.1.2).c7.2.2.2.2.2.2⟩) (fun hHeld=> ?_)
  generalize W0.drew=wd at*
  refine tk 2 ?_;refine tk 3 ?_;refine wpAnyH_ready (rs:=[0,9]) (by kernel_rfl) (by simp) (AllReadyH.cons rfl (fun K hK=> ?_) (AllReadyH.cons rfl (fun K hK=> ?_) (AllReadyH.nil)))
  ·
   go_simp;refine hE.fr (ffromInt_v 1 (wd) (by decide) (by decide)) ?_;clear hE;intro sp Ap np cp tp Bp mp dp w1 hE;go_wp2_with fail
   refine hK.out _ _ (⟨(hE.h2).c7.1,(hE.h2).c7.2.1,(hE.h2).c7.2.2.1,(hE.h2).c7.2.2.2.1,(hE.h2).c7.2.2.2.2.1,(hE.h2).c7.2.2.2.2.2.1,(hE.h2).c7.2.2.2.2.2.2⟩) (fun hHeld=> ?_);clear hK K;try simp only[PL]
   refine wpAnyH_ready (rs:=[1,9]) (by kernel_rfl) (by simp) (AllReadyH.cons rfl (fun K hK=> ?_) (AllReadyH.cons rfl (fun K hK=> ?_) (AllReadyH.nil)))
   ·
    go_simp;refine hE.fr (ffromInt_v 1 (w1) (by decide) (by decide)) ?_;clear hE;intro sw Aw nw cw tw Bw mw dw w2 hE;go_wp2_with fail
    refine hK.out _ _ (⟨(hE.h3).c7.1,(hE.h3).c7.2.1,(hE.h3).c7.2.2.1,(hE.h3).c7.2.2.2.1,(hE.h3).c7.2.2.2.2.1,(hE.h3).c7.2.2.2.2.2.1,(hE.h3).c7.2.2.2.2.2.2⟩) (fun hHeld=> ?_);clear hK K;try simp only[PL]
    refine wpAnyH_ready (rs:=[4,9]) (by kernel_rfl) (by simp) (AllReadyH.cons rfl (fun K hK=> ?_) (AllReadyH.cons rfl (fun K hK=> ?_) (AllReadyH.nil)))
    ·
     go_simp;refine hE.fr (cplus_v (a:=1) (b:=q) (ca:=cw) (da:=dw) (cb:=ci) (db:=di) hE.here.2 hE.h4 fl_one (Nat.le_trans Hl0.out (by decide)) (Nat.le_trans Hl1.out (by decide))) ?_;clear hE;intro sj Aj nj cj tj Bj mj dj w3 hE;go_wp2_with fail
     refine hK.out _ _ (⟨(hE.h4).c7.1,(hE.h4).c7.2.1,(hE.h4).c7.2.2.1,(hE.h4).c7.2.2.2.1,(hE.h4).c7.2.2.2.2.1,(hE.h4).c7.2.2.2.2.2.1,(hE.h4).c7.2.2.2.2.2.2⟩) (fun hHeld=> ?_);clear hK K;try simp only[PL]
     refine wpAnyH_ready (rs:=[5,9]) (by kernel_rfl) (by simp) (AllReadyH.cons rfl (fun K hK=> ?_) (AllReadyH.cons rfl (fun K hK=> ?_) (AllReadyH.nil)))
     ·
      go_simp;refine hE.fr (fdiv_v (a:=1) (b:=1+q) (ca:=cp) (da:=dp) (cb:=cj) (db:=dj) hE.h2 hE.here.2 fl_one (Nat.le_trans Hl1.out (by decide)) Hhnz.out Hlv.out) ?_;clear hE;intro sv Av nv cv tv Bv mv dv w4 hE;go_wp2_with fail
      refine hK.out _ _ (⟨(hE.h5).c7.1,(hE.h5).c7.2.1,(hE.h5).c7.2.2.1,(hE.h5).c7.2.2.2.1,(hE.h5).c7.2.2.2.2.1,(hE.h5).c7.2.2.2.2.2.1,(hE.h5).c7.2.2.2.2.2.2⟩) (fun hHeld=> ?_);clear hK K;try simp only[PL]
      refine tk 6 ?_;refine tk 7 ?_;refine tk 8 ?_;refine r1 9 (fun K hK=> ?_);go_simp
      obtain⟨g5,hg5⟩:∃g5,g5=w4.heap.size:=⟨_,rfl⟩
      have hl5_1:w.heap.size<g5:=by rw[hg5];exact(hE.h5).lt
      have hl5_2:w.heap.size+1<g5:=by rw[hg5];exact(hE.h4).lt
      replace hE:=hE.blk 29 qz4 (g:=g5) hg5.symm;generalize w4.alloc (.cells qz4 29)=W5 at hE⊢;rw[<-hg5];clear hg5;refine hK.out _ _ (⟨(hE.h6).c7.1,(hE.h6).c7.2.1,(hE.h6).c7.2.2.1,(hE.h6).c7.2.2.2.1,(hE.h6).c7.2.2.2.2.1,(hE.h6).c7.2.2.2.2.2.1,(hE.h6).c7.2.2.2.2.2.2⟩) (fun hHeld=> ?_);clear hK K;try simp only[PL]
      refine r1 10 (fun K hK=> ?_)
      have hgl6:w.heap.size<=g5:=by omega
      obtain⟨x6_0,x6_1,x6_2,x6_3⟩:=(hE.here.2).c4;obtain⟨f6_0,f6_1,f6_2,f6_3⟩:=hE.here.2.f4;replace hE:=(((((((((Env.again (bel4 hE.bel hgl6 (.bool sv) (.slice Av nv cv) (.bool tv) (.slice Bv mv dv))).fv ((hE.h7).sep4 hE.here.2 rfl _ _ _ _ rfl rfl rfl)).blkI ((hE.h6).far4 (by omega) _ _ _ _)).blkI ((hE.h5).far4 (by omega) _ _ _ _)).fv ((hE.h4).sep4 hE.here.2 rfl _ _ _ _ rfl rfl rfl)).fv ((hE.h3).sep4 hE.here.2 rfl _ _ _ _ rfl rfl rfl)).fv ((hE.h2).sep4 hE.here.2 rfl _ _ _ _ rfl rfl rfl)).fv ((hE.here.1.2).sep4 hE.here.2 rfl _ _ _ _ rfl rfl rfl)).blkI ((hE.here.2).s4 _ _ _ _));go_simp;clear x6_0 x6_1 x6_2 x6_3 f6_0 f6_1 f6_2 f6_3 hgl6;generalize ((((W5.setCell ⟨g5,0,none⟩ (.bool sv)).setCell ⟨g5,1,none⟩ (.slice Av nv cv)).setCell ⟨g5,2,none⟩ (.bool tv)).setCell ⟨g5,3,none⟩ (.slice Bv mv dv))=W6 at hE⊢;refine hK.out _ _ (⟨(hE.h6).c7.1,(hE.h6).c7.2.1,(hE.h6).c7.2.2.1,(hE.h6).c7.2.2.2.1,(hE.h6).c7.2.2.2.2.1,(hE.h6).c7.2.2.2.2.2.1,(hE.h6).c7.2.2.2.2.2.2⟩) (fun hHeld=> ?_);clear hK K;try simp only[PL]
      refine tk 11 ?_;refine wpAnyH_done (by kernel_rfl) ?_ _;go_wp2_with fail
      go_meet
      exact⟨g5,sv,Av,nv,cv,tv,Bv,mv,dv,rfl,rfl,by omega,((((((Env.again hE.bel).fv (hE.h7)).blkI (hE.h6)).blkI (hE.h5)).fv (hE.here.1.2)).blkI (hE.here.2))⟩
     ·
      go_simp
      obtain⟨g7,hg7⟩:∃g7,g7=w3.heap.size:=⟨_,rfl⟩
      have hl7_1:w.heap.size<g7:=by rw[hg7];exact(hE.h4).lt
      have hl7_2:w.heap.size+1<g7:=by rw[hg7];exact(hE.h3).lt
      replace hE:=hE.blk 29 qz4 (g:=g7) hg7.symm;generalize w3.alloc (.cells qz4 29)=W7 at hE⊢;rw[<-hg7];clear hg7;refine hK.out _ _ (⟨(hE.h5).c7.1,(hE.h5).c7.2.1,(hE.h5).c7.2.2.1,(hE.h5).c7.2.2.2.1,(hE.h5).c7.2.2.2.2.1,(hE.h5).c7.2.2.2.2.2.1,(hE.h5).c7.2.2.2.2.2.2⟩) (fun hHeld=> ?_);clear hK K;try simp only[PL]
      refine r1 5 (fun K hK=> ?_);go_simp;refine hE.fr (fdiv_v (a:=1) (b:=1+q) (ca:=cp) (da:=dp) (cb:=cj) (db:=dj) hE.h3 hE.here.1.2 fl_one (Nat.le_trans Hl1.out (by decide)) Hhnz.out Hlv.out) ?_;clear hE;intro sv Av nv cv tv Bv mv dv w8 hE;go_wp2_with fail
      refine hK.out _ _ (⟨(hE.h6).c7.1,(hE.h6).c7.2.1,(hE.h6).c7.2.2.1,(hE.h6).c7.2.2.2.1,(hE.h6).c7.2.2.2.2.1,(hE.h6).c7.2.2.2.2.2.1,(hE.h6).c7.2.2.2.2.2.2⟩) (fun hHeld=> ?_);clear hK K;try simp only[PL]
      refine tk 6 ?_;refine tk 7 ?_;refine tk 8 ?_;refine r1 10 (fun K hK=> ?_)
      have hgl9:w.heap.size<=g7:=by omega
      obtain⟨x9_0,x9_1,x9_2,x9_3⟩:=(hE.here.1.2).c4;obtain⟨f9_0,f9_1,f9_2,f9_3⟩:=hE.here.1.2.f4;replace hE:=(((((((((Env.again (bel4 hE.bel hgl9 (.bool sv) (.slice Av nv cv) (.bool tv) (.slice Bv mv dv))).fv ((hE.h7).sep4 hE.here.1.2 rfl _ _ _ _ rfl rfl rfl)).blkI ((hE.h6).far4 (by omega) _ _ _ _)).blkI ((hE.h5).far4 (by omega) _ _ _ _)).fv ((hE.h4).sep4 hE.here.1.2 rfl _ _ _ _ rfl rfl rfl)).fv ((hE.h3).sep4 hE.here.1.2 rfl _ _ _ _ rfl rfl rfl)).fv ((hE.h2).sep4 hE.here.1.2 rfl _ _ _ _ rfl rfl rfl)).blkI ((hE.here.1.2).s4 _ _ _ _)).fv ((hE.here.2).sep4 hE.here.1.2 rfl _ _ _ _ rfl rfl rfl));go_simp;clear x9_0 x9_1 x9_2 x9_3 f9_0 f9_1 f9_2 f9_3 hgl9;generalize ((((w8.setCell ⟨g7,0,none⟩ (.bool sv)).setCell ⟨g7,1,none⟩ (.slice Av nv cv)).setCell ⟨g7,2,none⟩ (.bool tv)).setCell ⟨g7,3,none⟩ (.slice Bv mv dv))=W9 at hE⊢;refine hK.out _ _ (⟨(hE.h6).c7.1,(hE.h6).c7.2.1,(hE.h6).c7.2.2.1,(hE.h6).c7.2.2.2.1,(hE.h6).c7.2.2.2.2.1,(hE.h6).c7.2.2.2.2.2.1,(hE.h6).c7.2.2.2.2.2.2⟩) (fun hHeld=> ?_);clear hK K;try simp only[PL]
      refine tk 11 ?_;refine wpAnyH_done (by kernel_rfl) ?_ _;go_wp2_with fail
      go_meet
      exact⟨g7,sv,Av,nv,cv,tv,Bv,mv,dv,rfl,rfl,by omega,((((((Env.again hE.bel).fv (hE.h7)).blkI (hE.h6)).blkI (hE.h5)).fv (hE.here.2)).blkI (hE.here.1.2))⟩
    ·
     go_simp
     obtain⟨g10,hg10⟩:∃g10,g10=w2.heap.size:=⟨_,rfl⟩
     have hl10_1:w.heap.size<g10:=by rw[hg10];exact(hE.h3).lt
     have hl10_2:w.heap.size+1<g10:=by rw[hg10];exact(hE.h2).lt
     replace hE:=hE.blk 29 qz4 (g:=g10) hg10.symm;generalize w2.alloc (.cells qz4 29)=W10 at hE⊢;rw[<-hg10];clear hg10;refine hK.out _ _ (⟨(hE.h4).c7.1,(hE.h4).c7.2.1,(hE.h4).c7.2.2.1,(hE.h4).c7.2.2.2.1,(hE.h4).c7.2.2.2.2.1,(hE.h4).c7.2.2.2.2.2.1,(hE.h4).c7.2.2.2.2.2.2⟩) (fun hHeld=> ?_);clear hK K;try simp only[PL]
     refine r1 4 (fun K hK=> ?_);go_simp;refine hE.fr (cplus_v (a:=1) (b:=q) (ca:=cw) (da:=dw) (cb:=ci) (db:=di) hE.here.1.2 hE.h5 fl_one (Nat.le_trans Hl0.out (by decide)) (Nat.le_trans Hl1.out (by decide))) ?_;clear hE;intro sj Aj nj cj tj Bj mj dj w11 hE;go_wp2_with fail
     refine hK.out _ _ (⟨(hE.h5).c7.1,(hE.h5).c7.2.1,(hE.h5).c7.2.2.1,(hE.h5).c7.2.2.2.1,(hE.h5).c7.2.2.2.2.1,(hE.h5).c7.2.2.2.2.2.1,(hE.h5).c7.2.2.2.2.2.2⟩) (fun hHeld=> ?_);clear hK K;try simp only[PL]
     refine r1 5 (fun K hK=> ?_);go_simp;refine hE.fr (fdiv_v (a:=1) (b:=1+q) (ca:=cp) (da:=dp) (cb:=cj) (db:=dj) hE.h3 hE.here.2 fl_one (Nat.le_trans Hl1.out (by decide)) Hhnz.out Hlv.out) ?_;clear hE;intro sv Av nv cv tv Bv mv dv w12 hE;go_wp2_with fail
     refine hK.out _ _ (⟨(hE.h6).c7.1,(hE.h6).c7.2.1,(hE.h6).c7.2.2.1,(hE.h6).c7.2.2.2.1,(hE.h6).c7.2.2.2.2.1,(hE.h6).c7.2.2.2.2.2.1,(hE.h6).c7.2.2.2.2.2.2⟩) (fun hHeld=> ?_);clear hK K;try simp only[PL]
     refine tk 6 ?_;refine tk 7 ?_;refine tk 8 ?_;refine r1 10 (fun K hK=> ?_)
     have hgl13:w.heap.size<=g10:=by omega
     obtain⟨x13_0,x13_1,x13_2,x13_3⟩:=(hE.h2).c4;obtain⟨f13_0,f13_1,f13_2,f13_3⟩:=hE.h2.f4;replace hE:=(((((((((Env.again (bel4 hE.bel hgl13 (.bool sv) (.slice Av nv cv) (.bool tv) (.slice Bv mv dv))).fv ((hE.h7).sep4 hE.h2 rfl _ _ _ _ rfl rfl rfl)).blkI ((hE.h6).far4 (by omega) _ _ _ _)).blkI ((hE.h5).far4 (by omega) _ _ _ _)).fv ((hE.h4).sep4 hE.h2 rfl _ _ _ _ rfl rfl rfl)).fv ((hE.h3).sep4 hE.h2 rfl _ _ _ _ rfl rfl rfl)).blkI ((hE.h2).s4 _ _ _ _)).fv ((hE.here.1.2).sep4 hE.h2 rfl _ _ _ _ rfl rfl rfl)).fv ((hE.here.2).sep4 hE.h2 rfl _ _ _ _ rfl rfl rfl));go_simp;clear x13_0 x13_1 x13_2 x13_3 f13_0 f13_1 f13_2 f13_3 hgl13;generalize ((((w12.setCell ⟨g10,0,none⟩ (.bool sv)).setCell ⟨g10,1,none⟩ (.slice Av nv cv)).setCell ⟨g10,2,none⟩ (.bool tv)).setCell ⟨g10,3,none⟩ (.slice Bv mv dv))=W13 at hE⊢;refine hK.out _ _ (⟨(hE.h6).c7.1,(hE.h6).c7.2.1,(hE.h6).c7.2.2.1,(hE.h6).c7.2.2.2.1,(hE.h6).c7.2.2.2.2.1,(hE.h6).c7.2.2.2.2.2.1,(hE.h6).c7.2.2.2.2.2.2⟩) (fun hHeld=> ?_);clear hK K;try simp only[PL]
     refine tk 11 ?_;refine wpAnyH_done (by kernel_rfl) ?_ _;go_wp2_with fail
     go_meet
     exact⟨g10,sv,Av,nv,cv,tv,Bv,mv,dv,rfl,rfl,by omega,((((((Env.again hE.bel).fv (hE.h7)).blkI (hE.h6)).blkI (hE.h5)).fv (hE.here.2)).blkI (hE.h2))⟩
   ·
    go_simp
    obtain⟨g14,hg14⟩:∃g14,g14=w1.heap.size:=⟨_,rfl⟩
    have hl14_1:w.heap.size<g14:=by rw[hg14];exact(hE.h2).lt
    have hl14_2:w.heap.size+1<g14:=by rw[hg14];exact(hE.here.1.2).lt
    replace hE:=hE.blk 29 qz4 (g:=g14) hg14.symm;generalize w1.alloc (.cells qz4 29)=W14 at hE⊢;rw[<-hg14];clear hg14;refine hK.out _ _ (⟨(hE.h3).c7.1,(hE.h3).c7.2.1,(hE.h3).c7.2.2.1,(hE.h3).c7.2.2.2.1,(hE.h3).c7.2.2.2.2.1,(hE.h3).c7.2.2.2.2.2.1,(hE.h3).c7.2.2.2.2.2.2⟩) (fun hHeld=> ?_);clear hK K;try simp only[PL]
    refine r1 1 (fun K hK=> ?_);go_simp;refine hE.fr (ffromInt_v 1 (W14) (by decide) (by decide)) ?_;clear hE;intro sw Aw nw cw tw Bw mw dw w15 hE;go_wp2_with fail
    refine hK.out _ _ (⟨(hE.h4).c7.1,(hE.h4).c7.2.1,(hE.h4).c7.2.2.1,(hE.h4).c7.2.2.2.1,(hE.h4).c7.2.2.2.2.1,(hE.h4).c7.2.2.2.2.2.1,(hE.h4).c7.2.2.2.2.2.2⟩) (fun hHeld=> ?_);clear hK K;try simp only[PL]
    refine r1 4 (fun K hK=> ?_);go_simp;refine hE.fr (cplus_v (a:=1) (b:=q) (ca:=cw) (da:=dw) (cb:=ci) (db:=di) hE.here.2 hE.h5 fl_one (Nat.le_trans Hl0.out (by decide)) (Nat.le_trans Hl1.out (by decide))) ?_;clear hE;intro sj Aj nj cj tj Bj mj dj w16 hE;go_wp2_with fail
    refine hK.out _ _ (⟨(hE.h5).c7.1,(hE.h5).c7.2.1,(hE.h5).c7.2.2.1,(hE.h5).c7.2.2.2.1,(hE.h5).c7.2.2.2.2.1,(hE.h5).c7.2.2.2.2.2.1,(hE.h5).c7.2.2.2.2.2.2⟩) (fun hHeld=> ?_);clear hK K;try simp only[PL]
    refine r1 5 (fun K hK=> ?_);go_simp;refine hE.fr (fdiv_v (a:=1) (b:=1+q) (ca:=cp) (da:=dp) (cb:=cj) (db:=dj) hE.h3 hE.here.2 fl_one (Nat.le_trans Hl1.out (by decide)) Hhnz.out Hlv.out) ?_;clear hE;intro sv Av nv cv tv Bv mv dv w17 hE;go_wp2_with fail
    refine hK.out _ _ (⟨(hE.h6).c7.1,(hE.h6).c7.2.1,(hE.h6).c7.2.2.1,(hE.h6).c7.2.2.2.1,(hE.h6).c7.2.2.2.2.1,(hE.h6).c7.2.2.2.2.2.1,(hE.h6).c7.2.2.2.2.2.2⟩) (fun hHeld=> ?_);clear hK K;try simp only[PL]
    refine tk 6 ?_;refine tk 7 ?_;refine tk 8 ?_;refine r1 10 (fun K hK=> ?_)
    have hgl18:w.heap.size<=g14:=by omega
    obtain⟨x18_0,x18_1,x18_2,x18_3⟩:=(hE.h3).c4;obtain⟨f18_0,f18_1,f18_2,f18_3⟩:=hE.h3.f4;replace hE:=(((((((((Env.again (bel4 hE.bel hgl18 (.bool sv) (.slice Av nv cv) (.bool tv) (.slice Bv mv dv))).fv ((hE.h7).sep4 hE.h3 rfl _ _ _ _ rfl rfl rfl)).blkI ((hE.h6).far4 (by omega) _ _ _ _)).blkI ((hE.h5).far4 (by omega) _ _ _ _)).fv ((hE.h4).sep4 hE.h3 rfl _ _ _ _ rfl rfl rfl)).blkI ((hE.h3).s4 _ _ _ _)).fv ((hE.h2).sep4 hE.h3 rfl _ _ _ _ rfl rfl rfl)).fv ((hE.here.1.2).sep4 hE.h3 rfl _ _ _ _ rfl rfl rfl)).fv ((hE.here.2).sep4 hE.h3 rfl _ _ _ _ rfl rfl rfl));go_simp;clear x18_0 x18_1 x18_2 x18_3 f18_0 f18_1 f18_2 f18_3 hgl18;generalize ((((w17.setCell ⟨g14,0,none⟩ (.bool sv)).setCell ⟨g14,1,none⟩ (.slice Av nv cv)).setCell ⟨g14,2,none⟩ (.bool tv)).setCell ⟨g14,3,none⟩ (.slice Bv mv dv))=W18 at hE⊢;refine hK.out _ _ (⟨(hE.h6).c7.1,(hE.h6).c7.2.1,(hE.h6).c7.2.2.1,(hE.h6).c7.2.2.2.1,(hE.h6).c7.2.2.2.2.1,(hE.h6).c7.2.2.2.2.2.1,(hE.h6).c7.2.2.2.2.2.2⟩) (fun hHeld=> ?_);clear hK K;try simp only[PL]
    refine tk 11 ?_;refine wpAnyH_done (by kernel_rfl) ?_ _;go_wp2_with fail
    go_meet
    exact⟨g14,sv,Av,nv,cv,tv,Bv,mv,dv,rfl,rfl,by omega,((((((Env.again hE.bel).fv (hE.h7)).blkI (hE.h6)).blkI (hE.h5)).fv (hE.here.2)).blkI (hE.h3))⟩
  ·
   go_simp
   obtain⟨g19,hg19⟩:∃g19,g19=wd.heap.size:=⟨_,rfl⟩
   have hl19_1:w.heap.size<g19:=by rw[hg19];exact(hE.here.1.2).lt
   have hl19_2:w.heap.size+1<g19:=by rw[hg19];exact(hE.here.2).lt
   replace hE:=hE.blk 29 qz4 (g:=g19) hg19.symm;generalize wd.alloc (.cells qz4 29)=W19 at hE⊢;rw[<-hg19];clear hg19;refine hK.out _ _ (⟨(hE.h2).c7.1,(hE.h2).c7.2.1,(hE.h2).c7.2.2.1,(hE.h2).c7.2.2.2.1,(hE.h2).c7.2.2.2.2.1,(hE.h2).c7.2.2.2.2.2.1,(hE.h2).c7.2.2.2.2.2.2⟩) (fun hHeld=> ?_);clear hK K;try simp only[PL]
   refine r1 0 (fun K hK=> ?_);go_simp;refine hE.fr (ffromInt_v 1 (W19) (by decide) (by decide)) ?_;clear hE;intro sp Ap np cp tp Bp mp dp w20 hE;go_wp2_with fail
   refine hK.out _ _ (⟨(hE.h3).c7.1,(hE.h3).c7.2.1,(hE.h3).c7.2.2.1,(hE.h3).c7.2.2.2.1,(hE.h3).c7.2.2.2.2.1,(hE.h3).c7.2.2.2.2.2.1,(hE.h3).c7.2.2.2.2.2.2⟩) (fun hHeld=> ?_);clear hK K;try simp only[PL]
   refine r1 1 (fun K hK=> ?_);go_simp;refine hE.fr (ffromInt_v 1 (w20) (by decide) (by decide)) ?_;clear hE;intro sw Aw nw cw tw Bw mw dw w21 hE;go_wp2_with fail
   refine hK.out _ _ (⟨(hE.h4).c7.1,(hE.h4).c7.2.1,(hE.h4).c7.2.2.1,(hE.h4).c7.2.2.2.1,(hE.h4).c7.2.2.2.2.1,(hE.h4).c7.2.2.2.2.2.1,(hE.h4).c7.2.2.2.2.2.2⟩) (fun hHeld=> ?_);clear hK K;try simp only[PL]
   refine r1 4 (fun K hK=> ?_);go_simp;refine hE.fr (cplus_v (a:=1) (b:=q) (ca:=cw) (da:=dw) (cb:=ci) (db:=di) hE.here.2 hE.h5 fl_one (Nat.le_trans Hl0.out (by decide)) (Nat.le_trans Hl1.out (by decide))) ?_;clear hE;intro sj Aj nj cj tj Bj mj dj w22 hE;go_wp2_with fail
   refine hK.out _ _ (⟨(hE.h5).c7.1,(hE.h5).c7.2.1,(hE.h5).c7.2.2.1,(hE.h5).c7.2.2.2.1,(hE.h5).c7.2.2.2.2.1,(hE.h5).c7.2.2.2.2.2.1,(hE.h5).c7.2.2.2.2.2.2⟩) (fun hHeld=> ?_);clear hK K;try simp only[PL]
   refine r1 5 (fun K hK=> ?_);go_simp;refine hE.fr (fdiv_v (a:=1) (b:=1+q) (ca:=cp) (da:=dp) (cb:=cj) (db:=dj) hE.h2 hE.here.2 fl_one (Nat.le_trans Hl1.out (by decide)) Hhnz.out Hlv.out) ?_;clear hE;intro sv Av nv cv tv Bv mv dv w23 hE;go_wp2_with fail
   refine hK.out _ _ (⟨(hE.h6).c7.1,(hE.h6).c7.2.1,(hE.h6).c7.2.2.1,(hE.h6).c7.2.2.2.1,(hE.h6).c7.2.2.2.2.1,(hE.h6).c7.2.2.2.2.2.1,(hE.h6).c7.2.2.2.2.2.2⟩) (fun hHeld=> ?_);clear hK K;try simp only[PL]
   refine tk 6 ?_;refine tk 7 ?_;refine tk 8 ?_;refine r1 10 (fun K hK=> ?_)
   have hgl24:w.heap.size<=g19:=by omega
   obtain⟨x24_0,x24_1,x24_2,x24_3⟩:=(hE.h4).c4;obtain⟨f24_0,f24_1,f24_2,f24_3⟩:=hE.h4.f4;replace hE:=(((((((((Env.again (bel4 hE.bel hgl24 (.bool sv) (.slice Av nv cv) (.bool tv) (.slice Bv mv dv))).fv ((hE.h7).sep4 hE.h4 rfl _ _ _ _ rfl rfl rfl)).blkI ((hE.h6).far4 (by omega) _ _ _ _)).blkI ((hE.h5).far4 (by omega) _ _ _ _)).blkI ((hE.h4).s4 _ _ _ _)).fv ((hE.h3).sep4 hE.h4 rfl _ _ _ _ rfl rfl rfl)).fv ((hE.h2).sep4 hE.h4 rfl _ _ _ _ rfl rfl rfl)).fv ((hE.here.1.2).sep4 hE.h4 rfl _ _ _ _ rfl rfl rfl)).fv ((hE.here.2).sep4 hE.h4 rfl _ _ _ _ rfl rfl rfl));go_simp;clear x24_0 x24_1 x24_2 x24_3 f24_0 f24_1 f24_2 f24_3 hgl24;generalize ((((w23.setCell ⟨g19,0,none⟩ (.bool sv)).setCell ⟨g19,1,none⟩ (.slice Av nv cv)).setCell ⟨g19,2,none⟩ (.bool tv)).setCell ⟨g19,3,none⟩ (.slice Bv mv dv))=W24 at hE⊢;refine hK.out _ _ (⟨(hE.h6).c7.1,(hE.h6).c7.2.1,(hE.h6).c7.2.2.1,(hE.h6).c7.2.2.2.1,(hE.h6).c7.2.2.2.2.1,(hE.h6).c7.2.2.2.2.2.1,(hE.h6).c7.2.2.2.2.2.2⟩) (fun hHeld=> ?_);clear hK K;try simp only[PL]
   refine tk 11 ?_;refine wpAnyH_done (by kernel_rfl) ?_ _;go_wp2_with fail
   go_meet
   exact⟨g19,sv,Av,nv,cv,tv,Bv,mv,dv,rfl,rfl,by omega,((((((Env.again hE.bel).fv (hE.h7)).blkI (hE.h6)).blkI (hE.h5)).fv (hE.here.2)).blkI (hE.h4))⟩
 case rest=>
 clear hE;obtain⟨G1,sv,Av,nv,cv,tv,Bv,mv,dv,rfl,rfl,hG1,hE⟩:=hcut;generalize wc=wk1 at hE⊢
 go_upto_region 2 with(fail)
 obtain⟨k25,k26,k27,k28⟩:=(hE.here.2).c4
 have hRl:w.heap.size<=w.heap.size+1:=by omega
 obtain⟨WW,hWW,hB,hV,hBel⟩:=ret_frac hE hE.h2 hRl hE.here.1.2 cv dv;obtain⟨x0,x1,x2,x3⟩:=(hE.h2).c4;obtain⟨fz0,fz1,fz2,fz3⟩:=hE.h2.f4;have HWW:=Lib.hid hWW;clear hWW;go_wp2_with fail
 clear k25 k26 k27 k28;rw[<-HWW.out];obtain⟨y0,y1,y2,y3⟩:=hB.c4;refine bodyPost_ret (v:= .agg (qf4 sv Av nv cv tv Bv mv dv)) (by simp[results,Tryz.results105,go_sem,y0,y1,y2,y3]) rfl ?_;exact⟨sv,Av,nv,cv,tv,Bv,mv,dv,rfl,hV,hBel⟩
theorem lRate_bad {F S E Y:Int}{A:Option Addr}{n c:Nat}{r:Nat->RH}{w:World}(hT:TabM w A n r)(hB:TabB n r)(hR:¬RightP F S n r E Y):
  Calls Tryz.prog 25 #[.agg #[.int .i64 F,.int .i64 S,.slice A n c],.agg #[.int .i64 E,.int .i64 Y]] w (fun e w'=>e= .returned (.tuple #[.agg qz4,.int .i64 2])/\Below w.heap.size w w'):=by
 have hE:=(((Env.start w).tab hT).blk 24 #[.int .i64 F,.int .i64 S,.slice A n c] (g:=w.heap.size) rfl).blk 33 #[.int .i64 E,.int .i64 Y] (g:=w.heap.size+1) (by simp);have hE:=hE.blk 29 qz4 (g:=w.heap.size+1+1) (by simp)
 obtain⟨W0,hW0⟩:∃W0,W0=(((w.alloc (.cells #[.int .i64 F,.int .i64 S,.slice A n c] 24)).alloc (.cells #[.int .i64 E,.int .i64 Y] 33)).alloc (.cells qz4 29)):=⟨_,rfl⟩
 rw[<-hW0] at hE;have HW0:=Lib.hid hW0;clear hW0
 go_enter Tryz.func25,Tryz.ntmps25
 go_upto_region 1 with(fail)
 rw[<-HW0.out];obtain⟨k1,k2,k3⟩:=(hE.h2).c3;obtain⟨k4,k5⟩:=(hE.here.1.2).c2;go_wp2_with fail
 refine hE.br (lright_f (c:=c) hE.h3 hB hR) ?_;clear hE k1 k2 k3 k4 k5;intro w6 hE
 have hRl:w.heap.size<=w.heap.size+1+1:=by omega
 have hB:=(hE.here.2).s4 (.bool false) (.slice none 0 0) (.bool false) (.slice none 0 0);have hBel:=bel4 hE.bel hRl (.bool false) (.slice none 0 0) (.bool false) (.slice none 0 0)
 obtain⟨WW,hWW⟩:∃x,x=((((w6.setCell ⟨w.heap.size+1+1,0,none⟩ (.bool false)).setCell ⟨w.heap.size+1+1,1,none⟩ (.slice none 0 0)).setCell ⟨w.heap.size+1+1,2,none⟩ (.bool false)).setCell ⟨w.heap.size+1+1,3,none⟩ (.slice none 0 0)):=⟨_,rfl⟩
 rw[<-hWW] at hB hBel;obtain⟨x0,x1,x2,x3⟩:=(hE.here.2).c4;obtain⟨fz0,fz1,fz2,fz3⟩:=(hE.here.2).f4;have HWW:=Lib.hid hWW;clear hWW;go_wp2_with fail
 clear x0 x1 x2 x3;rw[<-HWW.out];obtain⟨y0,y1,y2,y3⟩:=hB.c4;refine bodyPost_ret (v:= .tuple #[.agg qz4,.int .i64 2]) (by simp[results,Tryz.results25,go_sem,y0,y1,y2,y3]) rfl ?_;exact⟨rfl,hBel⟩
end
section
open Go.RowKit

def Kept (u:World)(R:Nat)(V:World):Prop:=u.grownBy V (some R)
section
variable {u V V':World} {R g:Nat}
theorem ColV.noL {b0 n:Nat}{v:Value}{h:Nat->Nat->Q8}{W:World}(hv:ColV b0 v n h W):noLimb v=true:=by
 rcases hv with⟨rfl,_⟩|⟨g,cap,rfl,_⟩<;>rfl
theorem Kept.refl (u:World)(R:Nat):Kept u R u:=⟨rfl,rfl,rfl,Nat.le_refl _,fun _ _ _=>rfl⟩
theorem Kept.grown (h:Kept u R V){row:Option Nat}(hg:V.grownBy V' row)(hr:∀q,row=some q->u.heap.size<=q\/q=R):Kept u R V':=
 ⟨hg.os.trans h.os,hg.tape.trans h.tape,hg.output.trans h.output,Nat.le_trans h.size hg.size,fun k hk hne=>(hg.block k (Nat.lt_of_lt_of_le hk h.size) (fun e=>by
  rcases hr k e.symm with h1|h1
  ·omega
  ·subst h1;exact hne rfl)).trans (h.block k hk hne)⟩
theorem Kept.stable (u:World)(R:Nat):Stable (Kept u R):=fun _ _ hb h=>h.grown (grown_of_below hb) (fun _ e=>by cases e)
theorem Kept.set (h:Kept u R V)(hg:u.heap.size<=g\/g=R)(i:Nat)(a:Value):Kept u R (V.setCell ⟨g,i,none⟩ a):=h.grown (grownBy_setCellI V g i a) (fun _ e=>by cases e;exact hg)
theorem Kept.set1 (h:Kept u R V)(hg:u.heap.size<=g\/g=R)(i:Nat)(a:Value):Kept u R (V.setCell ⟨g,i,none⟩ a):=h.set hg i a
theorem Kept.set4 (h:Kept u R V)(hg:u.heap.size<=g\/g=R)(a b c d:Value):Kept u R ((((V.setCell ⟨g,0,none⟩ a).setCell ⟨g,1,none⟩ b).setCell ⟨g,2,none⟩ c).setCell ⟨g,3,none⟩ d):=(((h.set hg 0 a).set hg 1 b).set hg 2 c).set hg 3 d
theorem Kept.grownV {n:Nat}{v:Value}{hh:Nat->Nat->Q8}(h:Kept u R V)(hv:ColV u.heap.size v n hh V)(hg:V.grownBy V' v.ownBlock):Kept u R V':=h.grown hg fun q e=>by
 rcases hv with⟨rfl,_⟩|⟨g,cap,rfl,h1,_⟩
 ·cases e
 ·
  obtain rfl:g=q:=by simpa [Value.ownBlock] using e
  exact .inl h1
end
theorem Env.kept {w W u:World}{R:Nat}{P:World->Prop}(hE:Env w P W)(hk:Kept u R W):Env w (fun V=>P V/\Kept u R V) W:=hE.and (Kept.stable _ _) hk
theorem ColQ.sep1 {W:World}{n R:Nat}{h:Nat->Nat->Q8}{J:Nat->Nat->Prop}{q:Nat->Nat->Rat}(hq:ColQ h n J q W){t:TypeId}{cs:Array Value}(hR:Blk t R cs W)(hn:cs.toList.all noLimb=true)(i:Nat)(a:Value):ColQ h n J q (W.setCell ⟨R,i,none⟩ a):=hq.to fun hf=>hf.sep hR hn a
def yearAt (p:Value)(W:World):Int:=match p with
 | .pointer (some ⟨b,_,_⟩)=>intOf ((W.cell? ⟨b,1,none⟩).getD (.int .i64 0))
 |_=>0
theorem yearAt_of {W:World}{g:Nat}{t:TypeId}{E y:Int}(h:Blk t g #[.int .i64 E,.int .i64 y] W):yearAt (.pointer (some ⟨g,0,none⟩)) W=y:=by
 unfold yearAt;simp only[h.cell];rfl
def colx (d c:Q8):Nat->Q8:=fun j=>if j=0 then d else if j=3 then c else Q8.z
theorem col_hx {W:World}{g:Nat}{d c:Q8}(hb:Blk 98 g #[.bool d.s,.slice d.A d.n d.c,.bool d.t,.slice d.B d.m d.d,.bool false,.slice none 0 0,.bool false,.slice none 0 0,.bool false,.slice none 0 0,.bool false,.slice none 0 0,.bool c.s,.slice c.A c.n c.c,.bool c.t,.slice c.B c.m c.d,.bool false,.slice none 0 0,.bool false,.slice none 0 0,.bool false,.slice none 0 0,.bool false,.slice none 0 0] W):
  ∀j u,(cols1 (colx d c))[j]?=some u->W.cell? ((⟨g,0,none⟩:Addr).add j)=some u:=fun j u h=>by
 have e:cols1 (colx d c)=[.bool d.s,.slice d.A d.n d.c,.bool d.t,.slice d.B d.m d.d,.bool false,.slice none 0 0,.bool false,.slice none 0 0,.bool false,.slice none 0 0,.bool false,.slice none 0 0,.bool c.s,.slice c.A c.n c.c,.bool c.t,.slice c.B c.m c.d,.bool false,.slice none 0 0,.bool false,.slice none 0 0,.bool false,.slice none 0 0,.bool false,.slice none 0 0]:=rfl;rw[add_none0,hb.cell,List.getElem?_toArray,<-e];exact h
def colq (v:Rat)(f:Nat->Rat)(N:Nat)(k j:Nat):Rat:=
 if j=0 then dd v f k else if j=1 then sf (dd v f) N k else if j=2 then sf (sf (dd v f) N) N k else if j=3 then cc v f k else if j=4 then sf (cc v f) N k else sf (sf (cc v f) N) N k
theorem app_step {P:Program}{o:Oper}{a:Act}{K:Act->World->Prop}{Q:Exit->Act->World->Prop}{w w':World}{s x:Operand}{t:TypeId}{v1 v2 v':Value}(ho:o.op= .call {callee:= .builtin .append,args:=#[s,x],argTypes:=#[t,t]})
  (hs:a.eval s=v1) (hx:a.eval x=v2) (hr:(Builtin.append_ #[t,t] o.type #[v1,v2]).run P w= .ok v' w') (h:K (a.put o.dst v') w'):o.wp P a w K Q:=by
 unfold Oper.wp execOp;simp only[ho,resolve,invoke,builtin,Sem.run_bind,Sem.run_pure,Result.andThen_ok,List.map_toArray,List.map_cons,List.map_nil,hs,hx,hr];exact h
theorem Env.atI {w W:World}{P:World->Prop}{b o:Nat}{v:Value}(h:Env w P W)(ha:At b o v W):Env w (fun V=>P V/\At b o v V) W:=h.and (At.stable b o v) ha
theorem right_at {F S E Y yr:Int}{n k:Nat}{r:Nat->RH}(hR:RightP F S n r E Y)(hy:yr=Y+(k:Int))(h3:yr<=300):RightP F S n r E yr:=by
 obtain⟨ht,r1,r2,r3,r4⟩:=hR;exact⟨ht,r1,r2,by omega,h3⟩
theorem right_not {F S E yr:Int}{n:Nat}{r:Nat->RH}(h3:¬yr<=300):¬RightP F S n r E yr:=fun h=>h3 h.2.2.2.2
theorem fr_at {F S E Y yr:Int}{n k:Nat}{r:Nat->RH}(hy:yr=Y+(k:Int)):fr F S n r E yr 0=fr F S n r E Y k:=by
 rw[hy,fr_move];rfl
theorem fr_past {F S E Y yr:Int}{n k:Nat}{r:Nat->RH}(hR:RightP F S n r E Y)(hy:yr=Y+(k:Int))(h3:¬yr<=300):((1:Int):Rat)=fr F S n r E Y k:=by
 show _=rt F S n r E Y (k:Int);unfold rt;obtain⟨ht,r1,r2,r3,r4⟩:=hR;have n2:=ht.2.1.2;have n3:=ht.1.1.2;rw[if_pos (by omega)];rfl
theorem yr_wrap {F S E Y yr:Int}{n k:Nat}{r:Nat->RH}(hR:RightP F S n r E Y)(hy:yr=Y+(k:Int))(hk:k<=1000):IntKind.i64.wrap (yr+1)=yr+1:=by
 obtain⟨_,_,_,_,_⟩:=hR;rw[IntKind.wrap_i64];omega
theorem FV.nz {W:World}{q:Rat}{s t:Bool}{A B:Option Addr}{n m:Nat}(h:FV W q s A n t B m):n=0↔q=0:=by
 have hl:=h.1.len;have hp:0<Go.Proofs.YtclbiihcbfnjmaaGreat.ln b16 q.num.natAbs↔0<q.num.natAbs:=ln_pos b16_two;rw[<-Rat.num_eq_zero];omega
end
end Go.Proofs.YtclbiihcbfnjmaaGreat
