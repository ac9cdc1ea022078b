/-
  Parts.
-/
import Derived.Test.YtclbiihcbfnjmaaGreatE3
import Derived.Test.YtclbiihcbfnjmaaGreatFk
import Derived.Test.YtclbiihcbfnjmaaGreatEYL
import Derived.Test.YtclbiihcbfnjmaaGreatPA
set_option maxRecDepth 1000000
set_option maxHeartbeats 16000000
set_option linter.unusedSimpArgs false
namespace Go.Proofs.YtclbiihcbfnjmaaGreat
open Go.RowKit

abbrev tM (x:Ct)(t:Nat)(gA gD:Int)(b0 b1:Bh)(j:FH):Array Value:=#[.int .i64 0,.int .i64 x.E,.int .i64 x.Y,.int .i64 x.T,.bool x.p.s,.slice x.p.A x.p.n x.p.c,.bool x.p.t,.slice x.p.B x.p.m x.p.d,.slice x.A x.n x.c,.slice x.B x.m x.d,.int .i64 (t:Int),.int .i64 gA,.int .i64 gD,.int .i64 b0.F,.int .i64 b0.S,.slice b0.A b0.n b0.c,.bool b0.i.s,.slice b0.i.A b0.i.n b0.i.c,.bool b0.i.t,.slice b0.i.B b0.i.m b0.i.d,.int .i64 b1.F,.int .i64 b1.S,.slice b1.A b1.n b1.c,.bool b1.i.s,.slice b1.i.A b1.i.n b1.i.c,.bool b1.i.t,.slice b1.i.B b1.i.m b1.i.d,.bool j.s,.slice j.A j.n j.c,.bool j.t,.slice j.B j.m j.d]
abbrev qC (h:FH):List Value:=[.bool h.s,.slice h.A h.n h.c,.bool h.t,.slice h.B h.m h.d]
abbrev uY (h:Nat->FH):List Value:=qC (h 0)++(qC (h 1)++(qC (h 2)++(qC (h 3)++(qC (h 4)++(qC (h 5)++(qC (h 6)++(qC (h 7)++(qC (h 8)++qC (h 9)))))))))
def akw (a b c d e f g h i j:FH):Nat->FH
 |0=>a|1=>b|2=>c|3=>d|4=>e|5=>f|6=>g|7=>h|8=>i|_=>j
def ad2 (it:Nat->Rat)(w:World)(e:Ending)(w':World):Prop:=∃h:Nat->FH,e= .returned (.agg (uY h).toArray)/\(∀k,k<10->FV w' (it k) (h k).s (h k).A (h k).n (h k).t (h k).B (h k).m)/\Below w.heap.size w w'
theorem pq {P:Program}{w w':World}{o:Oper}{a:Act}{K:Act->World->Prop}{Q:Exit->Act->World->Prop}{ty:TypeId}{x y:Operand}{p v:Value}(hr:(Instr.storeAt ty p v).run P w= .ok () w')(ho:o.op= .store ty x y)(hx:a.eval x=p)(hy:a.eval y=v)(h:K (a.put o.dst undef) w'):o.wp P a w K Q:=by
 unfold Oper.wp execOp;simp only[ho,hx,hy,Sem.run_bind,Sem.run_pure,Result.andThen_ok,hr];exact h
theorem ff {p:Program}{f:FuncId}{args:Array Value}{w:World}{q r:Rat}(e:q=r)(h:Calls p f args w (FR q w)):Calls p f args w (FR r w):=e▸h
theorem pz {P:Program}{fn:Func}{tmps:Array Value}{w:World}{a:Tmp}{t:TypeId}{p:Addr}{v:Value}(hf:fn.results=#[.cell a t])(ha:tmps.getD a undef= .pointer (some p))(hl:(loadVar t p).run P w= .ok v w):(results fn tmps).run P w= .ok v w:=by
 unfold results;rw[hf]
 have Ep:tmps[a]?.getD undef= .pointer (some p):=by simpa using ha
 simp[Ep,asAddr,hl]
theorem Ms (h:Nat->FH):∀v∈uY h,v.oneCell'=true:=fun v hv=>by
 simp only[uY,qC,List.cons_append,List.nil_append,List.mem_cons,List.not_mem_nil,or_false] at hv
 rcases hv with rfl|rfl|rfl|rfl|rfl|rfl|rfl|rfl|rfl|rfl|rfl|rfl|rfl|rfl|rfl|rfl|rfl|rfl|rfl|rfl|rfl|rfl|rfl|rfl|rfl|rfl|rfl|rfl|rfl|rfl|rfl|rfl|rfl|rfl|rfl|rfl|rfl|rfl|rfl|rfl<;>rfl
noncomputable def We:Code:=(Tryz.f96.body.bind (ru 12)).getD .skip
noncomputable def jq:Array Oper:=match We with
 | .region _ o _=>o
 |_=>#[]
theorem es0 :cQ .any jq (nV 97 0) [(true,0),(true,1),(true,2),(true,3),(true,4),(true,6),(true,7),(true,8)]=true:=by kernel_rfl
theorem es1 :cQ .any jq (nV 97 479) [(true,9),(true,10),(true,12),(true,13),(true,14),(true,15),(true,16),(true,18)]=true:=by kernel_rfl
theorem es2 :cQ .any jq (nV 97 391135) [(true,19),(true,20),(true,21),(true,22),(true,24),(true,25),(true,26),(true,27)]=true:=by kernel_rfl
theorem es3 :cQ .any jq (nV 97 259913695) [(true,28),(true,30),(true,31),(true,32),(true,33),(true,34),(true,36),(true,37)]=true:=by kernel_rfl
theorem es4 :cQ .any jq (nV 97 239972775903) [(true,38),(true,39),(true,40),(true,41),(true,42),(true,43),(true,44),(true,47)]=true:=by kernel_rfl
theorem es5 :cQ .any jq (nV 97 175886955313119) [(true,48),(true,49),(true,50),(true,51),(true,52),(true,53),(true,54),(true,55)]=true:=by kernel_rfl
theorem es6 :cQ .any jq (nV 97 71952006016530399) [(true,58),(true,59),(true,60),(true,61),(true,62),(true,63),(true,64),(true,65)]=true:=by kernel_rfl
theorem es7 :cQ .any jq (nV 97 73570697924703025119) [(true,66),(true,67),(true,68),(true,70),(true,72),(true,73),(true,74),(true,75)]=true:=by kernel_rfl
theorem es8 :cQ .any jq (nV 97 72606168395750659979231) [(true,76),(true,79),(true,80),(true,81),(true,82),(true,83),(true,84),(true,85)]=true:=by kernel_rfl
theorem es9 :cQ .any jq (nV 97 76914953577650617577240543) [(true,86),(true,88),(true,89),(true,90),(true,91),(true,92),(false,5),(false,11)]=true:=by kernel_rfl
theorem akx :cQ .any jq (nV 97 9748321510494684015226650623) [(false,17),(false,23),(false,29),(false,35),(false,45),(false,46),(false,56),(false,57)]=true:=by kernel_rfl
theorem aky :cQ .any jq (nV 97 9748321510710962385361829887) [(false,69),(false,71),(false,77),(false,78),(false,87),(false,93),(false,94),(true,95)]=true:=by kernel_rfl
theorem akz :cQ .any jq (nV 97 79228162514264337593543950335) [(false,96)]=true:=by kernel_rfl
theorem Zf :cE .any jq (nV 97 0) [(true,0),(true,1),(true,2),(true,3),(true,4),(true,6),(true,7),(true,8),(true,9),(true,10),(true,12),(true,13),(true,14),(true,15),(true,16),(true,18),(true,19),(true,20),(true,21),(true,22),(true,24),(true,25),(true,26),(true,27),(true,28),(true,30),(true,31),(true,32),(true,33),(true,34),(true,36),(true,37),(true,38),(true,39),(true,40),(true,41),(true,42),(true,43),(true,44),(true,47),(true,48),(true,49),(true,50),(true,51),(true,52),(true,53),(true,54),(true,55),(true,58),(true,59),(true,60),(true,61),(true,62),(true,63),(true,64),(true,65),(true,66),(true,67),(true,68),(true,70),(true,72),(true,73),(true,74),(true,75),(true,76),(true,79),(true,80),(true,81),(true,82),(true,83),(true,84),(true,85),(true,86),(true,88),(true,89),(true,90),(true,91),(true,92),(false,5),(false,11),(false,17),(false,23),(false,29),(false,35),(false,45),(false,46),(false,56),(false,57),(false,69),(false,71),(false,77),(false,78),(false,87),(false,93),(false,94),(true,95),(false,96)]=true:=
 show cE .any jq (nV 97 0) ([(true,0),(true,1),(true,2),(true,3),(true,4),(true,6),(true,7),(true,8)]++([(true,9),(true,10),(true,12),(true,13),(true,14),(true,15),(true,16),(true,18)]++([(true,19),(true,20),(true,21),(true,22),(true,24),(true,25),(true,26),(true,27)]++([(true,28),(true,30),(true,31),(true,32),(true,33),(true,34),(true,36),(true,37)]++([(true,38),(true,39),(true,40),(true,41),(true,42),(true,43),(true,44),(true,47)]++([(true,48),(true,49),(true,50),(true,51),(true,52),(true,53),(true,54),(true,55)]++([(true,58),(true,59),(true,60),(true,61),(true,62),(true,63),(true,64),(true,65)]++([(true,66),(true,67),(true,68),(true,70),(true,72),(true,73),(true,74),(true,75)]++([(true,76),(true,79),(true,80),(true,81),(true,82),(true,83),(true,84),(true,85)]++([(true,86),(true,88),(true,89),(true,90),(true,91),(true,92),(false,5),(false,11)]++([(false,17),(false,23),(false,29),(false,35),(false,45),(false,46),(false,56),(false,57)]++([(false,69),(false,71),(false,77),(false,78),(false,87),(false,93),(false,94),(true,95)]++([(false,96)]++ [])))))))))))))=true from(cQ.app es0 (L':=nV 97 479) (by kernel_rfl) (cQ.app es1 (L':=nV 97 391135) (by kernel_rfl) (cQ.app es2 (L':=nV 97 259913695) (by kernel_rfl) (cQ.app es3 (L':=nV 97 239972775903) (by kernel_rfl) (cQ.app es4 (L':=nV 97 175886955313119) (by kernel_rfl) (cQ.app es5 (L':=nV 97 71952006016530399) (by kernel_rfl) (cQ.app es6 (L':=nV 97 73570697924703025119) (by kernel_rfl) (cQ.app es7 (L':=nV 97 72606168395750659979231) (by kernel_rfl) (cQ.app es8 (L':=nV 97 76914953577650617577240543) (by kernel_rfl) (cQ.app es9 (L':=nV 97 9748321510494684015226650623) (by kernel_rfl) (cQ.app akx (L':=nV 97 9748321510710962385361829887) (by kernel_rfl) (cQ.app aky (L':=nV 97 79228162514264337593543950335) (by kernel_rfl) (cQ.app akz (L':=nV 97 158456325028528675187087900671) (by kernel_rfl) (by kernel_rfl))))))))))))))
theorem Zg {x:Ct}{gA gD:Int}{b0 b1:Bh}{j:FH}{t gw eT gh gj g5 gL jd iD jr js fJ gM gO jy mE gm:Nat}{qv qa qu qp ql qd qi qj qq qn qm:Rat}{sv tv sa ta su tu sp tp sl tl sd td sq tq sn tn sm tm sr tr se te sf tf sg tg Wf Wg sh th sw tw:Bool}{Av Bv Aa Ba Au Bu Ap Bp Al Bl Ad Bd Aq Bq An Bn Am Bm Ar Br Ae Be Af Bf Ag Bg Wh Wi Ah Bh Aw Bw:Option Addr}{nv cv mv dv na ca ma da nu cu mu du np cp mp dp nl cl ml dl nd cd md dd nq cq mq dq nn cn mn dn nm cm mm dm nr cr mr dr ne me nf cf mf df ng cg mg dg Wj Wk nh mh nw cw mw dw:Nat}{w w0:World}{Q:Exit->Act->World->Prop}{a:Act}(hE:Env w (fun V=>(((((((((((((((((((((((((((((((((((True/\ak 125 (gw) (tM x t gA gD b0 b1 j) V)/\FV V qi b0.i.s b0.i.A b0.i.n b0.i.t b0.i.B b0.i.m)/\FV V qj j.s j.A j.n j.t j.B j.m)/\ak 126 (w.heap.size) #[.bool false,.slice none 0 0,.bool false,.slice none 0 0,.bool false,.slice none 0 0,.bool false,.slice none 0 0,.bool false,.slice none 0 0,.bool false,.slice none 0 0,.bool false,.slice none 0 0,.bool false,.slice none 0 0,.bool false,.slice none 0 0,.bool false,.slice none 0 0,.bool false,.slice none 0 0,.bool false,.slice none 0 0,.bool false,.slice none 0 0,.bool false,.slice none 0 0,.bool false,.slice none 0 0,.bool false,.slice none 0 0,.bool false,.slice none 0 0,.bool false,.slice none 0 0,.bool false,.slice none 0 0,.bool false,.slice none 0 0] V)/\FV V qv sv Av nv tv Bv mv)/\ak 29 (eT) (az sv Av nv cv tv Bv mv dv) V)/\FV V qa sa Aa na ta Ba ma)/\FV V qu su Au nu tu Bu mu)/\ak 29 (gh) (az sa Aa na ca ta Ba ma da) V)/\ak 29 (gj) (az su Au nu cu tu Bu mu du) V)/\ak 29 (g5) (az sp Ap np cp tp Bp mp dp) V)/\FV V qp sp Ap np tp Bp mp)/\FV V ql sl Al nl tl Bl ml)/\FV V qd sd Ad nd td Bd md)/\ak 29 (gL) (az sl Al nl cl tl Bl ml dl) V)/\ak 29 (jd) (az sd Ad nd cd td Bd md dd) V)/\FV V qq sq Aq nq tq Bq mq)/\ak 29 (iD) (az b0.i.s b0.i.A b0.i.n b0.i.c b0.i.t b0.i.B b0.i.m b0.i.d) V)/\ak 29 (jr) (az j.s j.A j.n j.c j.t j.B j.m j.d) V)/\ak 29 (js) (az sq Aq nq cq tq Bq mq dq) V)/\FV V qn sn An nn tn Bn mn)/\FV V qm sm Am nm tm Bm mm)/\FV V (qn-qm) sr Ar nr tr Br mr)/\ak 29 (fJ) (az sn An nn cn tn Bn mn dn) V)/\ak 29 (gM) (az sm Am nm cm tm Bm mm dm) V)/\ak 29 (gO) (az sr Ar nr cr tr Br mr dr) V)/\FV V (qv+qp) se Ae ne te Be me)/\FV V (qv+qp-ql) sf Af nf tf Bf mf)/\ak 29 (jy) (az sf Af nf cf tf Bf mf df) V)/\FV V (qn*(qv+qp-ql)) sg Ag ng tg Bg mg)/\ak 29 (mE) (az sg Ag ng cg tg Bg mg dg) V)/\FV V ((1:Int):Rat) Wf Wh Wj Wg Wi Wk)/\FV V (((1:Int):Rat)+qi) sh Ah nh th Bh mh)/\FV V ((qv+qp-ql)*(1+qi)) sw Aw nw tw Bw mw)/\ak 29 (gm) (az sw Aw nw cw tw Bw mw dw) V)) w0)(hL:ItL qv qa qu qp ql qd qi qj qq qn qm)(Wl:((gA-gD:Int):Rat)=qn-qm)(zO:fl qn<=256/\fl qm<=256/\fl (qn-qm)<=256)
  (hk:Kn 255 a [(0,.pointer (some ⟨gw,0,none⟩)),(2,.pointer (some ⟨w.heap.size,0,none⟩)),(3,.pointer (some ⟨eT,0,none⟩)),(4,.pointer (some ⟨gh,0,none⟩)),(5,.pointer (some ⟨gj,0,none⟩)),(6,.pointer (some ⟨g5,0,none⟩)),(7,.pointer (some ⟨gL,0,none⟩)),(8,.pointer (some ⟨jd,0,none⟩)),(9,.pointer (some ⟨iD,0,none⟩)),(10,.pointer (some ⟨jr,0,none⟩)),(11,.pointer (some ⟨js,0,none⟩)),(12,.pointer (some ⟨fJ,0,none⟩)),(13,.pointer (some ⟨gM,0,none⟩)),(14,.pointer (some ⟨gO,0,none⟩)),(16,.pointer (some ⟨mE,0,none⟩)),(17,.pointer (some ⟨gm,0,none⟩))]) (yy:∀c a (t:Tmp) v w,Q (.panic c) (Act.put a (some t) v) w->Q (.panic c) a w) (hend:∀(a:Act) (U:World) (hh:Nat->FH),a.eval (.tmp 2)= .pointer (some ⟨w.heap.size,0,none⟩)->a.defers=[]->ak 126 w.heap.size (uY hh).toArray U->(∀k,k<10->FV U (p4 qv qa qu qp ql qd qi qj qq qn qm k) (hh k).s (hh k).A (hh k).n (hh k).t (hh k).B (hh k).m)->Below w.heap.size w U->Q .normal a U):Code.wp Tryz.prog We Q a w0:=by
 have oQ:∀w,(Instr.fieldAt 125 (.pointer (some ⟨gw,0,none⟩)) 0).run Tryz.prog w= .ok (.pointer (some ⟨gw,0,none⟩)) w:=fun w=>by first|kernel_rfl|(go_simp;done)|(go_simp;rfl)
 have hQ9:=Lib.hid Wl;have gP:=Lib.hid hL;clear Wl hL
 conv=>arg 2;whnf
 replace hE:=hE.drew
 refine Mt (S:=fun V=>ak 125 (gw) (tM x t gA gD b0 b1 j) V/\ak 29 (mE) (az sg Ag ng cg tg Bg mg dg) V/\ak 29 (gh) (az sa Aa na ca ta Ba ma da) V/\ak 29 (jd) (az sd Ad nd cd td Bd md dd) V/\ak 29 (iD) (az b0.i.s b0.i.A b0.i.n b0.i.c b0.i.t b0.i.B b0.i.m b0.i.d) V/\ak 29 (jr) (az j.s j.A j.n j.c j.t j.B j.m j.d) V/\ak 29 (gL) (az sl Al nl cl tl Bl ml dl) V/\ak 29 (gM) (az sm Am nm cm tm Bm mm dm) V/\ak 29 (fJ) (az sn An nn cn tn Bn mn dn) V/\ak 29 (g5) (az sp Ap np cp tp Bp mp dp) V/\ak 29 (js) (az sq Aq nq cq tq Bq mq dq) V/\ak 29 (gO) (az sr Ar nr cr tr Br mr dr) V/\ak 29 (gj) (az su Au nu cu tu Bu mu du) V/\ak 29 (eT) (az sv Av nv cv tv Bv mv dv) V/\ak 29 (gm) (az sw Aw nw cw tw Bw mw dw) V) (n:=97) [(true,0),(true,1),(true,2),(true,3),(true,4),(true,6),(true,7),(true,8),(true,9),(true,10),(true,12),(true,13),(true,14),(true,15),(true,16),(true,18),(true,19),(true,20),(true,21),(true,22),(true,24),(true,25),(true,26),(true,27),(true,28),(true,30),(true,31),(true,32),(true,33),(true,34),(true,36),(true,37),(true,38),(true,39),(true,40),(true,41),(true,42),(true,43),(true,44),(true,47),(true,48),(true,49),(true,50),(true,51),(true,52),(true,53),(true,54),(true,55),(true,58),(true,59),(true,60),(true,61),(true,62),(true,63),(true,64),(true,65),(true,66),(true,67),(true,68),(true,70),(true,72),(true,73),(true,74),(true,75),(true,76),(true,79),(true,80),(true,81),(true,82),(true,83),(true,84),(true,85),(true,86),(true,88),(true,89),(true,90),(true,91),(true,92),(false,5),(false,11),(false,17),(false,23),(false,29),(false,35),(false,45),(false,46),(false,56),(false,57),(false,69),(false,71),(false,77),(false,78),(false,87),(false,93),(false,94),(true,95),(false,96)] (by kernel_rfl) (⟨hE.yz.1.1.2,hE.h4,hE.cV.1.1.2,hE.au.1.1.1.2,hE.au.1.2,hE.au.2,hE.au.1.1.1.1.2,hE.h10,hE.h11,hE.cV.2,hE.e8.1.1.1.1.1.1.1.2,hE.h9,hE.cV.1.2,hE.cV.1.1.1.1.1.2,hE.here.2⟩) rfl Zf (by kernel_rfl) yy (fun _ _ hb ⟨h0,h1,h2,h3,h4,h5,h6,h7,h8,h9,h10,h11,h12,bZ,h14⟩=>⟨ak.stable _ _ _ _ _ hb h0,ak.stable _ _ _ _ _ hb h1,ak.stable _ _ _ _ _ hb h2,ak.stable _ _ _ _ _ hb h3,ak.stable _ _ _ _ _ hb h4,ak.stable _ _ _ _ _ hb h5,ak.stable _ _ _ _ _ hb h6,ak.stable _ _ _ _ _ hb h7,ak.stable _ _ _ _ _ hb h8,ak.stable _ _ _ _ _ hb h9,ak.stable _ _ _ _ _ hb h10,ak.stable _ _ _ _ _ hb h11,ak.stable _ _ _ _ _ hb h12,ak.stable _ _ _ _ _ hb bZ,ak.stable _ _ _ _ _ hb h14⟩) ?_
 intro hq hp hHeld AR
 generalize w0.drew=wd at*
 refine iF hq hk hp hHeld rfl rfl rfl rfl rfl (fun a hk hp=> ?_);refine iG hq hk hp hHeld rfl rfl rfl rfl rfl (fun a hk hp=> ?_);refine iH oQ hq hk hp hHeld rfl rfl rfl rfl rfl (fun a hk hp=> ?_);refine dZ (fun _ h=>h.2.2.2.2.2.2.2.2.1) hq hk hp hHeld rfl rfl rfl rfl rfl (fun a hk hp=> ?_);refine dZ (fun _ h=>h.2.2.2.2.2.2.2.2.2.2.2.2.2.1) hq hk hp hHeld rfl rfl rfl rfl rfl (fun a hk hp=> ?_);refine iF hq hk hp hHeld rfl rfl rfl rfl rfl (fun a hk hp=> ?_);refine iG hq hk hp hHeld rfl rfl rfl rfl rfl (fun a hk hp=> ?_);refine iH oQ hq hk hp hHeld rfl rfl rfl rfl rfl (fun a hk hp=> ?_);refine dZ (fun _ h=>h.2.2.2.2.2.2.2.2.1) hq hk hp hHeld rfl rfl rfl rfl rfl (fun a hk hp=> ?_);refine dZ (fun _ h=>h.2.2.2.2.2.2.2.2.2.1) hq hk hp hHeld rfl rfl rfl rfl rfl (fun a hk hp=> ?_);refine iF hq hk hp hHeld rfl rfl rfl rfl rfl (fun a hk hp=> ?_);refine iG hq hk hp hHeld rfl rfl rfl rfl rfl (fun a hk hp=> ?_);refine iH oQ hq hk hp hHeld rfl rfl rfl rfl rfl (fun a hk hp=> ?_);refine dZ (fun _ h=>h.2.2.2.2.2.2.2.2.1) hq hk hp hHeld rfl rfl rfl rfl rfl (fun a hk hp=> ?_);refine dZ (fun _ h=>h.2.2.2.2.2.2.1) hq hk hp hHeld rfl rfl rfl rfl rfl (fun a hk hp=> ?_);refine iF hq hk hp hHeld rfl rfl rfl rfl rfl (fun a hk hp=> ?_);refine iG hq hk hp hHeld rfl rfl rfl rfl rfl (fun a hk hp=> ?_);refine iH oQ hq hk hp hHeld rfl rfl rfl rfl rfl (fun a hk hp=> ?_);refine dZ (fun _ h=>h.2.1) hq hk hp hHeld rfl rfl rfl rfl rfl (fun a hk hp=> ?_);refine dZ (fun _ h=>h.2.2.2.2.2.1) hq hk hp hHeld rfl rfl rfl rfl rfl (fun a hk hp=> ?_);refine iF hq hk hp hHeld rfl rfl rfl rfl rfl (fun a hk hp=> ?_);refine iG hq hk hp hHeld rfl rfl rfl rfl rfl (fun a hk hp=> ?_);refine iH oQ hq hk hp hHeld rfl rfl rfl rfl rfl (fun a hk hp=> ?_);refine dZ (fun _ h=>h.2.2.2.2.2.2.2.1) hq hk hp hHeld rfl rfl rfl rfl rfl (fun a hk hp=> ?_);refine dZ (fun _ h=>h.2.2.2.1) hq hk hp hHeld rfl rfl rfl rfl rfl (fun a hk hp=> ?_);refine iF hq hk hp hHeld rfl rfl rfl rfl rfl (fun a hk hp=> ?_);refine iG hq hk hp hHeld rfl rfl rfl rfl rfl (fun a hk hp=> ?_);refine iH oQ hq hk hp hHeld rfl rfl rfl rfl rfl (fun a hk hp=> ?_);refine dZ (fun _ h=>h.2.2.2.2.2.2.2.2.2.2.2.1) hq hk hp hHeld rfl rfl rfl rfl rfl (fun a hk hp=> ?_);refine dZ (fun _ h=>h.2.2.2.2.2.2.2.2.2.2.2.2.1) hq hk hp hHeld rfl rfl rfl rfl rfl (fun a hk hp=> ?_);refine iF hq hk hp hHeld rfl rfl rfl rfl rfl (fun a hk hp=> ?_);refine iG hq hk hp hHeld rfl rfl rfl rfl rfl (fun a hk hp=> ?_);refine iH oQ hq hk hp hHeld rfl rfl rfl rfl rfl (fun a hk hp=> ?_);refine dZ (fun _ h=>h.2.2.2.2.2.2.2.2.1) hq hk hp hHeld rfl rfl rfl rfl rfl (fun a hk hp=> ?_);refine iF hq hk hp hHeld rfl rfl rfl rfl rfl (fun a hk hp=> ?_);refine iG hq hk hp hHeld rfl rfl rfl rfl rfl (fun a hk hp=> ?_);refine iH oQ hq hk hp hHeld rfl rfl rfl rfl rfl (fun a hk hp=> ?_)
 refine dZ (fun _ h=>h.2.2.2.2.2.2.2.2.2.2.2.2.2.2) hq hk hp hHeld rfl rfl rfl rfl rfl (fun a hk hp=> ?_);refine dZ (fun _ h=>h.2.2.2.2.2.2.2.2.2.2.2.2.2.1) hq hk hp hHeld rfl rfl rfl rfl rfl (fun a hk hp=> ?_);refine iF hq hk hp hHeld rfl rfl rfl rfl rfl (fun a hk hp=> ?_);refine iG hq hk hp hHeld rfl rfl rfl rfl rfl (fun a hk hp=> ?_);refine iH oQ hq hk hp hHeld rfl rfl rfl rfl rfl (fun a hk hp=> ?_);refine dZ (fun _ h=>h.2.1) hq hk hp hHeld rfl rfl rfl rfl rfl (fun a hk hp=> ?_);refine iF hq hk hp hHeld rfl rfl rfl rfl rfl (fun a hk hp=> ?_);refine iG hq hk hp hHeld rfl rfl rfl rfl rfl (fun a hk hp=> ?_);refine iH oQ hq hk hp hHeld rfl rfl rfl rfl rfl (fun a hk hp=> ?_);refine dZ (fun _ h=>h.2.2.2.2.2.1) hq hk hp hHeld rfl rfl rfl rfl rfl (fun a hk hp=> ?_);refine dZ (fun _ h=>h.2.2.2.2.1) hq hk hp hHeld rfl rfl rfl rfl rfl (fun a hk hp=> ?_);refine iF hq hk hp hHeld rfl rfl rfl rfl rfl (fun a hk hp=> ?_);refine iG hq hk hp hHeld rfl rfl rfl rfl rfl (fun a hk hp=> ?_);refine iH oQ hq hk hp hHeld rfl rfl rfl rfl rfl (fun a hk hp=> ?_);refine iF hq hk hp hHeld rfl rfl rfl rfl rfl (fun a hk hp=> ?_);refine iG hq hk hp hHeld rfl rfl rfl rfl rfl (fun a hk hp=> ?_);refine iH oQ hq hk hp hHeld rfl rfl rfl rfl rfl (fun a hk hp=> ?_);refine iF hq hk hp hHeld rfl rfl rfl rfl rfl (fun a hk hp=> ?_);refine iG hq hk hp hHeld rfl rfl rfl rfl rfl (fun a hk hp=> ?_);refine iH oQ hq hk hp hHeld rfl rfl rfl rfl rfl (fun a hk hp=> ?_);refine dZ (fun _ h=>h.2.2.2.2.2.2.2.2.1) hq hk hp hHeld rfl rfl rfl rfl rfl (fun a hk hp=> ?_);refine dZ (fun _ h=>h.2.2.2.2.2.2.2.2.2.2.1) hq hk hp hHeld rfl rfl rfl rfl rfl (fun a hk hp=> ?_);refine dZ (fun _ h=>h.2.2.2.2.2.2.2.1) hq hk hp hHeld rfl rfl rfl rfl rfl (fun a hk hp=> ?_);refine iF hq hk hp hHeld rfl rfl rfl rfl rfl (fun a hk hp=> ?_);refine iG hq hk hp hHeld rfl rfl rfl rfl rfl (fun a hk hp=> ?_);refine iH oQ hq hk hp hHeld rfl rfl rfl rfl rfl (fun a hk hp=> ?_);refine dZ (fun _ h=>h.2.2.2.1) hq hk hp hHeld rfl rfl rfl rfl rfl (fun a hk hp=> ?_);refine dZ (fun _ h=>h.2.2.1) hq hk hp hHeld rfl rfl rfl rfl rfl (fun a hk hp=> ?_);refine iF hq hk hp hHeld rfl rfl rfl rfl rfl (fun a hk hp=> ?_);refine iG hq hk hp hHeld rfl rfl rfl rfl rfl (fun a hk hp=> ?_);refine iH oQ hq hk hp hHeld rfl rfl rfl rfl rfl (fun a hk hp=> ?_);refine iF hq hk hp hHeld rfl rfl rfl rfl rfl (fun a hk hp=> ?_);refine iG hq hk hp hHeld rfl rfl rfl rfl rfl (fun a hk hp=> ?_);refine iH oQ hq hk hp hHeld rfl rfl rfl rfl rfl (fun a hk hp=> ?_);refine dZ (fun _ h=>h.2.2.2.2.2.2.2.2.2.2.2.1) hq hk hp hHeld rfl rfl rfl rfl rfl (fun a hk hp=> ?_);refine dZ (fun _ h=>h.2.2.1) hq hk hp hHeld rfl rfl rfl rfl rfl (fun a hk hp=> ?_);refine iF hq hk hp hHeld rfl rfl rfl rfl rfl (fun a hk hp=> ?_);refine iG hq hk hp hHeld rfl rfl rfl rfl rfl (fun a hk hp=> ?_)
 refine iH oQ hq hk hp hHeld rfl rfl rfl rfl rfl (fun a hk hp=> ?_);refine dZ (fun _ h=>h.2.2.2.2.2.2.2.2.2.2.2.1) hq hk hp hHeld rfl rfl rfl rfl rfl (fun a hk hp=> ?_);refine dZ (fun _ h=>h.2.2.2.2.2.2.2.2.2.2.2.2.1) hq hk hp hHeld rfl rfl rfl rfl rfl (fun a hk hp=> ?_);refine dR Tryz.func141 (fX (ca:=cn) (da:=dn) (cb:=cv) (db:=dv) (cD (show ak _ gw (nO x (t:Int) gA gD b0 b1 j) _ from hE.yz.1.1.2)) (hE.e8.1.1.1.1.1.1.2) (hE.cV.1.1.1.1.1.1.2) zO.1 gP.out.l1 (gP.out.it 0)) hk hp rfl rfl rfl rfl rfl rfl rfl ?_;clear hk hp a;rintro e w22 ⟨sK5,AK5,nK5,cK5,tK5,BK5,mK5,dK5,rfl,hv,hb⟩;replace hE:=(hE.step hb).fv hv;clear hv;replace hHeld:=AR _ _ hb hHeld;clear hb;refine⟨_,rfl,hHeld,fun hHeld a hk hp=> ?_⟩;refine dR Tryz.func141 (fX (ca:=cn) (da:=dn) (cb:=cp) (db:=dp) (cD (show ak _ gw (nO x (t:Int) gA gD b0 b1 j) _ from hE.yz.1.1.1.2)) (hE.e8.1.1.1.1.1.1.1.2) (hE.cV.2) zO.1 gP.out.l4 (gP.out.it 1)) hk hp rfl rfl rfl rfl rfl rfl rfl ?_;clear hk hp a;rintro e Zh ⟨Rz,RA,RB,RC,RD,RE,RF,RG,rfl,hv,hb⟩;replace hE:=(hE.step hb).fv hv;clear hv;replace hHeld:=AR _ _ hb hHeld;clear hb;refine⟨_,rfl,hHeld,fun hHeld a hk hp=> ?_⟩;refine dR Tryz.func141 (fX (ca:=cn) (da:=dn) (cb:=cl) (db:=dl) (cD (show ak _ gw (nO x (t:Int) gA gD b0 b1 j) _ from hE.yz.1.1.1.1.2)) (hE.au.2) (hE.cV.2) zO.1 gP.out.l5 (gP.out.it 2)) hk hp rfl rfl rfl rfl rfl rfl rfl ?_;clear hk hp a;rintro e w24 ⟨RJ,RK,RL,RM,RN,RO,RP,RQ,rfl,hv,hb⟩;replace hE:=(hE.step hb).fv hv;clear hv;replace hHeld:=AR _ _ hb hHeld;clear hb;refine⟨_,rfl,hHeld,fun hHeld a hk hp=> ?_⟩;refine dR Tryz.func141 (fX (ca:=cg) (da:=dg) (cb:=j.c) (db:=j.d) (cD (show ak _ gw (nO x (t:Int) gA gD b0 b1 j) _ from hE.yz.1.1.1.1.1.2)) (hE.h8) (hE.yz.1.1.1.2) gP.out.b3 gP.out.l8 (gP.out.it 3)) hk hp rfl rfl rfl rfl rfl rfl rfl ?_;clear hk hp a;rintro e w25 ⟨RR,RT,RU,RV,RW,RX,RY,RZ,rfl,hv,hb⟩;replace hE:=(hE.step hb).fv hv;clear hv;replace hHeld:=AR _ _ hb hHeld;clear hb;refine⟨_,rfl,hHeld,fun hHeld a hk hp=> ?_⟩
 refine dR Tryz.func141 (fX (ca:=cm) (da:=dm) (cb:=cd) (db:=dd) (cD (show ak _ gw (nO x (t:Int) gA gD b0 b1 j) _ from hE.yz.1.1.1.1.1.1.2)) (hE.au.1.2) (hE.cV.1.2) zO.2.1 gP.out.l6 (gP.out.it 4)) hk hp rfl rfl rfl rfl rfl rfl rfl ?_;clear hk hp a;rintro e w26 ⟨R1,R3,R4,R5,R6,R7,R9,Sa,rfl,hv,hb⟩;replace hE:=(hE.step hb).fv hv;clear hv;replace hHeld:=AR _ _ hb hHeld;clear hb;refine⟨_,rfl,hHeld,fun hHeld a hk hp=> ?_⟩;refine dR Tryz.func141 (fX (ca:=cr) (da:=dr) (cb:=cu) (db:=du) (cD (show ak _ gw (nO x (t:Int) gA gD b0 b1 j) _ from hE.yz.1.1.1.1.1.1.1.2)) (hE.au.1.2) (hE.yz.2) zO.2.2 gP.out.l3 (gP.out.it 5)) hk hp rfl rfl rfl rfl rfl rfl rfl ?_;clear hk hp a;rintro e w27 ⟨Sb,Sc,Sd,Se,Sf,Sg,Sh,Si,rfl,hv,hb⟩;replace hE:=(hE.step hb).fv hv;clear hv;replace hHeld:=AR _ _ hb hHeld;clear hb;refine⟨_,rfl,hHeld,fun hHeld a hk hp=> ?_⟩;refine dR Tryz.func97 (kP (ca:=cw) (da:=dw) (cb:=cv) (db:=dv) (cD (show ak _ gw (nO x (t:Int) gA gD b0 b1 j) _ from hE.I0.2)) (hE.h7) (hE.yz.1.1.1.1.2) gP.out.b5 gP.out.l1 gP.out.b6) hk hp rfl rfl rfl rfl rfl rfl rfl ?_;clear hk hp a;rintro e w28 ⟨apF,apG,apH,akA,apI,apJ,apK,akB,rfl,hv,hb⟩;replace hE:=(hE.step hb).fv hv;clear hv;replace hHeld:=AR _ _ hb hHeld;clear hb;refine⟨_,rfl,hHeld,fun hHeld a hk hp=> ?_⟩;refine dR Tryz.func141 (fX (ca:=cn) (da:=dn) (cb:=akA) (db:=akB) (cD (show ak _ gw (nO x (t:Int) gA gD b0 b1 j) _ from hE.I0.1.2)) (hE.au.1.1.1.1.1.2) (hE.here.2) zO.1 gP.out.b6 (gP.out.it 6)) hk hp rfl rfl rfl rfl rfl rfl rfl ?_;clear hk hp a;rintro e QG ⟨Sj,Sk,Sl,Sm,Sq,Sr,Ss,St,rfl,hv,hb⟩;replace hE:=(hE.step hb).fv hv;clear hv;replace hHeld:=AR _ _ hb hHeld;clear hb;refine⟨_,rfl,hHeld,fun hHeld a hk hp=> ?_⟩
 refine dR Tryz.func97 (kP (ca:=j.c) (da:=j.d) (cb:=b0.i.c) (db:=b0.i.d) (cD (show ak _ gw (nO x (t:Int) gA gD b0 b1 j) _ from hE.I0.1.1.2)) (hE.I0.2) (hE.I0.1.2) gP.out.l8 gP.out.l7 gP.out.b7) hk hp rfl rfl rfl rfl rfl rfl rfl ?_;clear hk hp a;rintro e w30 ⟨apL,apM,apN,akC,apO,apP,apQ,akD,rfl,hv,hb⟩;replace hE:=(hE.step hb).fv hv;clear hv;replace hHeld:=AR _ _ hb hHeld;clear hb;refine⟨_,rfl,hHeld,fun hHeld a hk hp=> ?_⟩;refine dR Tryz.func141 (fX (ca:=cg) (da:=dg) (cb:=akC) (db:=akD) (cD (show ak _ gw (nO x (t:Int) gA gD b0 b1 j) _ from hE.I0.1.1.1.2)) (hE.e8.1.1.1.1.1.1.2) (hE.here.2) gP.out.b3 gP.out.b7 (gP.out.it 7)) hk hp rfl rfl rfl rfl rfl rfl rfl ?_;clear hk hp a;rintro e w31 ⟨Su,Sv,Sw,Sy,SA,SB,SC,SD,rfl,hv,hb⟩;replace hE:=(hE.step hb).fv hv;clear hv;replace hHeld:=AR _ _ hb hHeld;clear hb;refine⟨_,rfl,hHeld,fun hHeld a hk hp=> ?_⟩;refine dR Tryz.func141 (fX (ca:=cn) (da:=dn) (cb:=cq) (db:=dq) (cD (show ak _ gw (nO x (t:Int) gA gD b0 b1 j) _ from hE.I0.1.1.1.1.2)) (hE.cV.2) (hE.cV.1.1.1.1.2) zO.1 gP.out.l9 gP.out.b8) hk hp rfl rfl rfl rfl rfl rfl rfl ?_;clear hk hp a;rintro e w32 ⟨apR,apS,apT,akE,apU,apV,apW,akF,rfl,hv,hb⟩;replace hE:=(hE.step hb).fv hv;clear hv;replace hHeld:=AR _ _ hb hHeld;clear hb;refine⟨_,rfl,hHeld,fun hHeld a hk hp=> ?_⟩;refine dR Tryz.func97 (kP (ca:=akE) (da:=akF) (cb:=cm) (db:=dm) (cD (show ak _ gw (nO x (t:Int) gA gD b0 b1 j) _ from hE.I0.1.1.1.1.1.2)) (hE.here.2) (hE.cV.2) gP.out.b8 zO.2.1 gP.out.b9) hk hp rfl rfl rfl rfl rfl rfl rfl ?_;clear hk hp a;rintro e w33 ⟨apX,apY,apZ,akG,ap0,ap1,ap2,akH,rfl,hv,hb⟩;replace hE:=(hE.step hb).fv hv;clear hv;replace hHeld:=AR _ _ hb hHeld;clear hb;refine⟨_,rfl,hHeld,fun hHeld a hk hp=> ?_⟩
 refine dR Tryz.func97 (kP (ca:=cd) (da:=dd) (cb:=ca) (db:=da) (cD (show ak _ gw (nO x (t:Int) gA gD b0 b1 j) _ from hE.I0.1.1.1.1.1.1.2)) (hE.yz.1.2) (hE.I0.2) gP.out.l6 gP.out.l2 gP.out.c1) hk hp rfl rfl rfl rfl rfl rfl rfl ?_;clear hk hp a;rintro e VN ⟨ap3,ap4,ap5,akI,ap6,ap7,ap8,akJ,rfl,hv,hb⟩;replace hE:=(hE.step hb).fv hv;clear hv;replace hHeld:=AR _ _ hb hHeld;clear hb;refine⟨_,rfl,hHeld,fun hHeld a hk hp=> ?_⟩;refine dR Tryz.func141 (fX (ca:=akG) (da:=akH) (cb:=akI) (db:=akJ) (cD (show ak _ gw (nO x (t:Int) gA gD b0 b1 j) _ from hE.I0.1.1.1.1.1.1.1.2)) (hE.here.1.2) (hE.here.2) gP.out.b9 gP.out.c1 (gP.out.it 8)) hk hp rfl rfl rfl rfl rfl rfl rfl ?_;clear hk hp a;rintro e w35 ⟨SE,SF,SG,SH,SI,SJ,SK,SL,rfl,hv,hb⟩;replace hE:=(hE.step hb).fv hv;clear hv;replace hHeld:=AR _ _ hb hHeld;clear hb;refine⟨_,rfl,hHeld,fun hHeld a hk hp=> ?_⟩;refine dR Tryz.func141 (fX (ca:=cr) (da:=dr) (cb:=ca) (db:=da) (cD (show ak _ gw (nO x (t:Int) gA gD b0 b1 j) _ from hE.DU.2)) (hE.cV.1.1.2) (hE.I0.1.1.2) zO.2.2 gP.out.l2 gP.out.c2) hk hp rfl rfl rfl rfl rfl rfl rfl ?_;clear hk hp a;rintro e w36 ⟨ap9,aqa,aqb,akK,aqc,aqd,aqe,akL,rfl,hv,hb⟩;replace hE:=(hE.step hb).fv hv;clear hv;replace hHeld:=AR _ _ hb hHeld;clear hb;refine⟨_,rfl,hHeld,fun hHeld a hk hp=> ?_⟩;refine dR Tryz.func141 (fX (ca:=cr) (da:=dr) (cb:=cu) (db:=du) (cD (show ak _ gw (nO x (t:Int) gA gD b0 b1 j) _ from hE.DU.1.2)) (hE.cV.1.1.1.2) (hE.I0.1.1.2) zO.2.2 gP.out.l3 gP.out.c3) hk hp rfl rfl rfl rfl rfl rfl rfl ?_;clear hk hp a;rintro e w37 ⟨aqf,aqg,aqh,akM,aqi,aqj,aqk,akN,rfl,hv,hb⟩;replace hE:=(hE.step hb).fv hv;clear hv;replace hHeld:=AR _ _ hb hHeld;clear hb;refine⟨_,rfl,hHeld,fun hHeld a hk hp=> ?_⟩
 refine dR Tryz.func97 (kP (ca:=akK) (da:=akL) (cb:=akM) (db:=akN) (cD (show ak _ gw (nO x (t:Int) gA gD b0 b1 j) _ from hE.DU.1.1.2)) (hE.here.1.2) (hE.here.2) gP.out.c2 gP.out.c3 (gP.out.it 9)) hk hp rfl rfl rfl rfl rfl rfl rfl ?_;clear hk hp a;rintro e w38 ⟨SM,SN,SP,SQ,SR,SS,SU,SV,rfl,hv,hb⟩;replace hE:=(hE.step hb).fv hv;clear hv;replace hHeld:=AR _ _ hb hHeld;clear hb;refine⟨_,rfl,hHeld,fun hHeld a hk hp=> ?_⟩
 obtain⟨hh,Ku⟩:∃hh:Nat->FH,hh=akw (bD (qn*qv) sK5 AK5 nK5 cK5 tK5 BK5 mK5 dK5) (bD (qn*qp) Rz RA RB RC RD RE RF RG) (bD (qn*ql) RJ RK RL RM RN RO RP RQ) (bD (qn*(qv+qp-ql)*qj) RR RT RU RV RW RX RY RZ) (bD (qm*qd) R1 R3 R4 R5 R6 R7 R9 Sa) (bD ((qn-qm)*qu) Sb Sc Sd Se Sf Sg Sh Si) (bD (qn*((qv+qp-ql)*(1+qi)-qv)) Sj Sk Sl Sm Sq Sr Ss St) (bD (qn*(qv+qp-ql)*(qj-qi)) Su Sv Sw Sy SA SB SC SD) (bD ((qn*qq-qm)*(qd-qa)) SE SF SG SH SI SJ SK SL) (bD ((qn-qm)*qa-(qn-qm)*qu) SM SN SP SQ SR SS SU SV):=⟨_,rfl⟩
 have hbd:∀w,(Instr.build 126 #[(0,.agg (az sK5 AK5 nK5 cK5 tK5 BK5 mK5 dK5)),(1,.agg (az Rz RA RB RC RD RE RF RG)),(2,.agg (az RJ RK RL RM RN RO RP RQ)),(3,.agg (az RR RT RU RV RW RX RY RZ)),(4,.agg (az R1 R3 R4 R5 R6 R7 R9 Sa)),(5,.agg (az Sb Sc Sd Se Sf Sg Sh Si)),(6,.agg (az Sj Sk Sl Sm Sq Sr Ss St)),(7,.agg (az Su Sv Sw Sy SA SB SC SD)),(8,.agg (az SE SF SG SH SI SJ SK SL)),(9,.agg (az SM SN SP SQ SR SS SU SV))]).run Tryz.prog w= .ok (.agg (uY hh).toArray) w:=fun w=>by rw[Ku];first|kernel_rfl|(go_simp;rfl)
 refine ad3 hbd hq hk hp hHeld rfl rfl rfl rfl (by simp only[List.map_toArray,List.map_cons,List.map_nil,show a.eval (.tmp 164)= .agg (az sK5 AK5 nK5 cK5 tK5 BK5 mK5 dK5) from hk.get rfl,show a.eval (.tmp 170)= .agg (az Rz RA RB RC RD RE RF RG) from hk.get rfl,show a.eval (.tmp 176)= .agg (az RJ RK RL RM RN RO RP RQ) from hk.get rfl,show a.eval (.tmp 182)= .agg (az RR RT RU RV RW RX RY RZ) from hk.get rfl,show a.eval (.tmp 188)= .agg (az R1 R3 R4 R5 R6 R7 R9 Sa) from hk.get rfl,show a.eval (.tmp 194)= .agg (az Sb Sc Sd Se Sf Sg Sh Si) from hk.get rfl,show a.eval (.tmp 205)= .agg (az Sj Sk Sl Sm Sq Sr Ss St) from hk.get rfl,show a.eval (.tmp 216)= .agg (az Su Sv Sw Sy SA SB SC SD) from hk.get rfl,show a.eval (.tmp 237)= .agg (az SE SF SG SH SI SJ SK SL) from hk.get rfl,show a.eval (.tmp 253)= .agg (az SM SN SP SQ SR SS SU SV) from hk.get rfl]) (fun a hk hp=> ?_);have hst:=jm 126 (hE.DU.2) (uY hh) rfl (by kernel_rfl) (Ms hh);obtain⟨cX,iC⟩:=jt (hE.DU.2) (uY hh) rfl;have aQ:=Go.Proofs.YtclbiihcbfnjmaaGreat.Below.ax hE.av cX hE.av.size (Nat.le_refl _);have r0:=FV.ax (hE.au.2) (hE.DU.2) rfl cX;have r1:=FV.ax (hE.e8.1.1.1.1.1.1.1.2) (hE.DU.2) rfl cX;have r2:=FV.ax (hE.e8.1.1.1.1.1.1.2) (hE.DU.2) rfl cX;have r3:=FV.ax (hE.bZ) (hE.DU.2) rfl cX;have r4:=FV.ax (hE.h12) (hE.DU.2) rfl cX;have r5:=FV.ax (hE.h11) (hE.DU.2) rfl cX;have r6:=FV.ax (hE.h9) (hE.DU.2) rfl cX;have r7:=FV.ax (hE.h7) (hE.DU.2) rfl cX;have r8:=FV.ax (hE.h3) (hE.DU.2) rfl cX
 have r9:=FV.ax (hE.here.2) (hE.DU.2) rfl cX;have jS:=hE.DU.2;refine Mu hst hk hp rfl rfl rfl rfl rfl rfl ⟨ak.ax hHeld.1 cX (ak.ne hHeld.1 jS (by decide)),ak.ax hHeld.2.1 cX (ak.ne hHeld.2.1 jS (by decide)),ak.ax hHeld.2.2.1 cX (ak.ne hHeld.2.2.1 jS (by decide)),ak.ax hHeld.2.2.2.1 cX (ak.ne hHeld.2.2.2.1 jS (by decide)),ak.ax hHeld.2.2.2.2.1 cX (ak.ne hHeld.2.2.2.2.1 jS (by decide)),ak.ax hHeld.2.2.2.2.2.1 cX (ak.ne hHeld.2.2.2.2.2.1 jS (by decide)),ak.ax hHeld.2.2.2.2.2.2.1 cX (ak.ne hHeld.2.2.2.2.2.2.1 jS (by decide)),ak.ax hHeld.2.2.2.2.2.2.2.1 cX (ak.ne hHeld.2.2.2.2.2.2.2.1 jS (by decide)),ak.ax hHeld.2.2.2.2.2.2.2.2.1 cX (ak.ne hHeld.2.2.2.2.2.2.2.2.1 jS (by decide)),ak.ax hHeld.2.2.2.2.2.2.2.2.2.1 cX (ak.ne hHeld.2.2.2.2.2.2.2.2.2.1 jS (by decide)),ak.ax hHeld.2.2.2.2.2.2.2.2.2.2.1 cX (ak.ne hHeld.2.2.2.2.2.2.2.2.2.2.1 jS (by decide)),ak.ax hHeld.2.2.2.2.2.2.2.2.2.2.2.1 cX (ak.ne hHeld.2.2.2.2.2.2.2.2.2.2.2.1 jS (by decide)),ak.ax hHeld.2.2.2.2.2.2.2.2.2.2.2.2.1 cX (ak.ne hHeld.2.2.2.2.2.2.2.2.2.2.2.2.1 jS (by decide)),ak.ax hHeld.2.2.2.2.2.2.2.2.2.2.2.2.2.1 cX (ak.ne hHeld.2.2.2.2.2.2.2.2.2.2.2.2.2.1 jS (by decide)),ak.ax hHeld.2.2.2.2.2.2.2.2.2.2.2.2.2.2 cX (ak.ne hHeld.2.2.2.2.2.2.2.2.2.2.2.2.2.2 jS (by decide))⟩ ?_
 have e0:hh 0=(bD (qn*qv) sK5 AK5 nK5 cK5 tK5 BK5 mK5 dK5):=by rw[Ku];rfl
 have e1:hh 1=(bD (qn*qp) Rz RA RB RC RD RE RF RG):=by rw[Ku];rfl
 have e2:hh 2=(bD (qn*ql) RJ RK RL RM RN RO RP RQ):=by rw[Ku];rfl
 have e3:hh 3=(bD (qn*(qv+qp-ql)*qj) RR RT RU RV RW RX RY RZ):=by rw[Ku];rfl
 have e4:hh 4=(bD (qm*qd) R1 R3 R4 R5 R6 R7 R9 Sa):=by rw[Ku];rfl
 have e5:hh 5=(bD ((qn-qm)*qu) Sb Sc Sd Se Sf Sg Sh Si):=by rw[Ku];rfl
 have e6:hh 6=(bD (qn*((qv+qp-ql)*(1+qi)-qv)) Sj Sk Sl Sm Sq Sr Ss St):=by rw[Ku];rfl
 have e7:hh 7=(bD (qn*(qv+qp-ql)*(qj-qi)) Su Sv Sw Sy SA SB SC SD):=by rw[Ku];rfl
 have e8:hh 8=(bD ((qn*qq-qm)*(qd-qa)) SE SF SG SH SI SJ SK SL):=by rw[Ku];rfl
 have e9:hh 9=(bD ((qn-qm)*qa-(qn-qm)*qu) SM SN SP SQ SR SS SU SV):=by rw[Ku];rfl
 clear Ku;refine hend _ _ hh (hk.get rfl) hk.2.1 iC (fun k hk=> ?_) aQ
 rcases k with _|_|_|_|_|_|_|_|_|_|k
 ·show FV _ _ (hh 0).s (hh 0).A (hh 0).n (hh 0).t (hh 0).B (hh 0).m;rw[e0];exact r0
 ·show FV _ _ (hh 1).s (hh 1).A (hh 1).n (hh 1).t (hh 1).B (hh 1).m;rw[e1];exact r1
 ·show FV _ _ (hh 2).s (hh 2).A (hh 2).n (hh 2).t (hh 2).B (hh 2).m;rw[e2];exact r2
 ·show FV _ _ (hh 3).s (hh 3).A (hh 3).n (hh 3).t (hh 3).B (hh 3).m;rw[e3];exact r3
 ·show FV _ _ (hh 4).s (hh 4).A (hh 4).n (hh 4).t (hh 4).B (hh 4).m;rw[e4];exact r4
 ·show FV _ _ (hh 5).s (hh 5).A (hh 5).n (hh 5).t (hh 5).B (hh 5).m;rw[e5];exact r5
 ·show FV _ _ (hh 6).s (hh 6).A (hh 6).n (hh 6).t (hh 6).B (hh 6).m;rw[e6];exact r6
 ·show FV _ _ (hh 7).s (hh 7).A (hh 7).n (hh 7).t (hh 7).B (hh 7).m;rw[e7];exact r7
 ·show FV _ _ (hh 8).s (hh 8).A (hh 8).n (hh 8).t (hh 8).B (hh 8).m;rw[e8];exact r8
 ·show FV _ _ (hh 9).s (hh 9).A (hh 9).n (hh 9).t (hh 9).B (hh 9).m;rw[e9];exact r9
 ·exact absurd hk (by omega)
theorem qo {z:Int}(h1:-1099511627776<=z)(h2:z<=1099511627776):fl ((z:Int):Rat)<=256:=by
 have h:=Sz.int z (M:=aj^3) (by
  have:aj^3=281474976710656:=by decide
  omega)
 exact Nat.le_trans (h.fl (k:=3) (j:=0) (by decide) (by decide) (Nat.le_refl _) (by decide)) (by decide)
theorem SW {x:Ct}{gw:Nat}{gA gD:Int}{b0 b1:Bh}{j:FH}{t u:Nat}{qv qa qu qp ql qd qi qj qq qn qm:Rat}{w:World}(QJ:b0.val x (b0.cnt x) t=qv)(hqa:b0.val x (b0.cnt x) u=qa)(hqu:b1.val x (b1.cnt x) u=qu)(hqp:mU x.T.toNat x.p.q t=qp)(hql:jR x.l x.n t=ql)(hqd:jR x.k x.m t=qd)(hqi:b0.i.q=qi)(hqj:j.q=qj)(Wm:b0.rt x.E x.Y t=qq)(Ee:((gA:Int):Rat)=qn)(hqm:((gD:Int):Rat)=qm)(hu:u=t+1)(hb:b0.rd w)(hd:b1.rd w)(hx:x.rd w)(hj:j.rd w)(lS:b0.bd)(hdb:b1.bd)(iB:x.bd)(hS:Er b0 b1 ⟨x,(t:Int),gA,gD⟩)(hJ:SX j)(hW:ak 125 gw (nO x (t:Int) gA gD b0 b1 j) w)(hL:ItL qv qa qu qp ql qd qi qj qq qn qm):
  Calls Tryz.prog 96 #[.pointer (some ⟨gw,0,none⟩)] w (ad2 (p4 qv qa qu qp ql qd qi qj qq qn qm) w):=by
 have uW:ak 125 gw (tM x t gA gD b0 b1 j) w:=hW;have tE:=uW.lt;have YY:=Lib.hid uW;clear uW hW;have hc0:b0.cnt x<=11/\kH b0.v (b0.rt x.E x.Y) (b0.cnt x):=hS.c0;have oR:b1.cnt x<=11/\kH b1.v (b1.rt x.E x.Y) (b1.cnt x):=hS.c1;have sF:x.ok b0:=hS.ok.1.1;have I3:x.ok b1:=hS.ok.1.2;have ht:t<b0.cnt x:=hS.t0 hb;have hpr:=(Ct.Es hx sF).1;have hI:=(Bh.fv hb sF.1).1;have hJf:=(hJ.fv hj).1;rw[hqi] at hI;rw[hqj] at hJf
 have eP:∀k,k<x.n->-9223372036854775808<=x.l k/\x.l k<=9223372036854775807:=fun k hk=>by have:=sF.2.2.2.2.1.2 k hk;omega
 have tN:∀k,k<x.m->-9223372036854775808<=x.k k/\x.k k<=9223372036854775807:=fun k hk=>by have:=sF.2.2.2.2.2.2 k hk;omega
 have hnn:=hS.ok.2.2.1;have ox:(0:Int)<=gA/\gA<=1099511627776/\0<=gD/\gD<=gA:=hnn;clear hnn
 have o1:IntKind.i64.wrap ((t:Int)+1)=(u:Int):=by rw[IntKind.wrap_i64];have:=hc0.1;omega
 have o2:IntKind.i64.wrap (gA-gD)=gA-gD:=by rw[IntKind.wrap_i64];omega
 have Wl:((gA-gD:Int):Rat)=qn-qm:=by rw[Rat.intCast_sub,Ee,hqm]
 have aql:=hc0.1;have aqm:=oR.1
 have Mw:u<=9223372036854775807:=by omega
 have Zi:t<=9223372036854775807:=by omega
 have hT:mU x.T.toNat x.p.q t=if(t:Int)<x.T then x.p.q else 0:=by unfold mU;have:=sF.2.2.1.1;rcases Classical.em ((t:Int)<x.T) with h|h;(rw[if_pos h,if_pos (by omega)]);(rw[if_neg h,if_neg (by omega)])
 have ad4:(t:Int)<x.T->x.p.q=qp:=fun h=>by rw[<-hqp,hT,if_pos h]
 have ad5:¬(t:Int)<x.T->((0:Int):Rat)=qp:=fun h=>by rw[<-hqp,hT,if_neg h];rfl
 clear hT;have oy:b0.right x.E (x.Y+(t:Int)):=vL sF hc0.2 hc0.1 hS.n0 ht;have hti:=lS.1
 have akO:-9223372036854775808<=x.Y+(t:Int)/\x.Y+(t:Int)<=9223372036854775807:=by have:0<=x.Y+(t:Int)/\x.Y+(t:Int)<=300:=oy.2.2.2;omega
 have AU:=Lib.hid sF;clear sF;have FY:=Lib.hid I3;clear I3;have jG:=Lib.hid hb;clear hb;have Hhd:=Lib.hid hd;clear hd;have mB:=Lib.hid hx;clear hx;have Hhj:=Lib.hid hj;clear hj;have fS:=Lib.hid lS;clear lS;have SY:=Lib.hid hdb;clear hdb;have fZ:=Lib.hid iB;clear iB;have HhS:=Lib.hid hS;clear hS;have HhJ:=Lib.hid hJ;clear hJ;have gP:=Lib.hid hL;clear hL;have Zj:=Lib.hid QJ;clear QJ;have Zk:=Lib.hid hqa;clear hqa;have akP:=Lib.hid hqu;clear hqu;have aqn:=Lib.hid hqp;clear hqp;have akQ:=Lib.hid hql;clear hql;have akR:=Lib.hid hqd;clear hqd;have aqo:=Lib.hid hqi;clear hqi;have aqp:=Lib.hid hqj;clear hqj;have yB:=Lib.hid Wm;clear Wm;have ad6:=Lib.hid Ee;clear Ee;have ad7:=Lib.hid hqm;clear hqm;have Hhu:=Lib.hid hu;clear hu;have ad8:=Lib.hid hc0;clear hc0;have Mx:=Lib.hid oR;clear oR;have akS:=Lib.hid hpr;clear hpr;have HhI:=Lib.hid hI;clear hI;have akT:=Lib.hid hJf;clear hJf;have akU:=Lib.hid eP;clear eP;have My:=Lib.hid tN;clear tN;have Mz:=Lib.hid Wl;clear Wl;have ad9:=Lib.hid ad4;clear ad4;have aea:=Lib.hid ad5;clear ad5;have Zl:=Lib.hid oy;clear oy;have akV:=Lib.hid hti;clear hti;have hE:=(((((Env.start w).af YY.out).fv HhI.out).fv akT.out).blk 126 #[.bool false,.slice none 0 0,.bool false,.slice none 0 0,.bool false,.slice none 0 0,.bool false,.slice none 0 0,.bool false,.slice none 0 0,.bool false,.slice none 0 0,.bool false,.slice none 0 0,.bool false,.slice none 0 0,.bool false,.slice none 0 0,.bool false,.slice none 0 0,.bool false,.slice none 0 0,.bool false,.slice none 0 0,.bool false,.slice none 0 0,.bool false,.slice none 0 0,.bool false,.slice none 0 0,.bool false,.slice none 0 0,.bool false,.slice none 0 0,.bool false,.slice none 0 0,.bool false,.slice none 0 0,.bool false,.slice none 0 0] (g:=w.heap.size) rfl)
 obtain⟨W0,aC⟩:∃W0,W0=w.alloc (.cells #[.bool false,.slice none 0 0,.bool false,.slice none 0 0,.bool false,.slice none 0 0,.bool false,.slice none 0 0,.bool false,.slice none 0 0,.bool false,.slice none 0 0,.bool false,.slice none 0 0,.bool false,.slice none 0 0,.bool false,.slice none 0 0,.bool false,.slice none 0 0,.bool false,.slice none 0 0,.bool false,.slice none 0 0,.bool false,.slice none 0 0,.bool false,.slice none 0 0,.bool false,.slice none 0 0,.bool false,.slice none 0 0,.bool false,.slice none 0 0,.bool false,.slice none 0 0,.bool false,.slice none 0 0,.bool false,.slice none 0 0] 126):=⟨_,rfl⟩
 rw[<-aC] at hE;have aU:=Lib.hid aC;clear aC
 go_enter Tryz.func96,Tryz.ntmps96
 go_upto_region 1 with(fail)
 rw[<-aU.out];replace hE:=hE.drew;refine wp_region_held_drew (S:=fun V=>ak 125 (gw) (tM x t gA gD b0 b1 j) V) (by kernel_rfl) (hE.h3) (fun hHeld=> ?_)
 generalize W0.drew=wd at*
 refine tk 0 ?_;refine tk 1 ?_;refine tk 2 ?_;refine tk 3 ?_
 refine tk 4 ?_ (hy:=by
  intro w ay;have Mh:=(ay).cell 13;have Mi:=(ay).cell 14;have Mj:=(ay).cell 15;have Zm:=(ay).cell 16;have Zn:=(ay).cell 17;have I4:=(ay).cell 18;have Zo:=(ay).cell 19;clear ay
  first|(go_simp;done)|(go_simp;with_reducible rfl))
 try simp only[PL]
 refine tk 5 ?_;refine tk 6 ?_;refine tk 7 ?_;refine tk 8 ?_
 refine tk 9 ?_ (hy:=by
  intro w ay;have uX:=(ay).cell 10;clear ay
  first|(go_simp;done)|(go_simp;with_reducible rfl))
 try simp only[PL]
 obtain⟨B1,Wn⟩:∃B,B=wd.heap.size:=⟨_,rfl⟩
 have hw1:w.heap.size<=B1:=by rw[Wn];exact hE.av.size
 have aeb:gw<B1:=by rw[Wn];exact(hE.h3).lt
 have aec:w.heap.size<B1:=by rw[Wn];exact(hE.here.2).lt
 refine dP (I:=cN w _ _ B1 [⟨10,28,eH qv⟩,⟨11,3,jv 29 aY B1⟩]) [10,11] (f1:=1) (by kernel_rfl) (by kernel_rfl) (by kernel_rfl) rfl (by kernel_rfl) (by kernel_rfl) (by rfl) (cN.start hE Wn (by kernel_rfl)) ?Et ?akW
 case Et=>
  have hst:∀g∈([⟨10,28,eH qv⟩,⟨11,3,jv 29 aY B1⟩]:List bz),∀x,bq (g.R x):=(fun g hg=>by simp only[List.mem_cons,List.not_mem_nil,or_false] at hg;rcases hg with rfl|rfl<;>first|exact eH.stable _|exact jv.stable _ _ _|exact Kv.stable _|exact Kw.stable _)
  clear hE hHeld Wn;refine aH.cons (ds:=[0,4,9]) rfl (by kernel_rfl) (fun D a W0 hI hD K hK=> ?_) ?_
  ·
   have hE:=hI.here;obtain⟨xs,rfl,-,hF,-,-⟩:=id hI;obtain⟨Wo,xs,rfl,FZ,hF⟩:=hF.ag;obtain⟨Wp,xs,rfl,F0,hF⟩:=hF.ag;obtain rfl:=hF.nil;clear hF;try simp only[aT,Act.put,List.setIfInBounds_toArray,List.set_cons_zero,List.set_cons_succ,List.getElem_toArray,List.getElem_cons_succ,List.getElem_cons_zero]
   go_simp;refine(ff Zj.out (ow (b:=b0) (Bh.aA jG.out hE.av) fS.out (Ct.aA mB.out hE.av) fZ.out AU.out (b0.cnt x) ad8.out.2 (by omega) (show ak _ gw (nO x (t:Int) gA gD b0 b1 j) _ from hE.h3) t Zi)).mono ?_
   rintro e W1 ⟨sv,Av,nv,cv,tv,Bv,mv,dv,rfl,hv,hb⟩
   have bG:=hE.step hb;go_wp2_with fail
   refine hK.out _ _ (bG.here.1.1.1.2) ?_;exact hI.call (c:=cv) (d:=dv) 0 hst rfl (by kernel_rfl) (by kernel_rfl) (by kernel_rfl) hb hv
  refine aH.cons (ds:=[]) rfl (by kernel_rfl) (fun D a W0 hI hD K hK=> ?_) ?_
  ·
   have hE:=hI.here;obtain⟨xs,rfl,-,hF,-,-⟩:=id hI;obtain⟨Wo,xs,rfl,FZ,hF⟩:=hF.ag;obtain⟨Wp,xs,rfl,F0,hF⟩:=hF.ag;obtain rfl:=hF.nil;clear hF;try simp only[aT,Act.put,List.setIfInBounds_toArray,List.set_cons_zero,List.set_cons_succ,List.getElem_toArray,List.getElem_cons_succ,List.getElem_cons_zero]
   go_simp;have bG:=hE.alloc (.cells aY 29);refine hK.out _ _ (bG.here.1.1.1.2) ?_;exact hI.alloc 1 hst rfl (by kernel_rfl) (by kernel_rfl) (by kernel_rfl)
  exact aH.nil
 clear hE hHeld Wn;intro D a W1 hI hD;have hE:=hI.here;obtain⟨xs,rfl,-,hF,hA,-⟩:=id hI;clear hI;obtain⟨Wo,xs,rfl,FZ,hF⟩:=hF.ag;obtain⟨Wp,xs,rfl,F0,hF⟩:=hF.ag;obtain rfl:=hF.nil;clear hF;obtain⟨sv,Av,nv,cv,tv,Bv,mv,dv,rfl,tO⟩:=FZ (hD 10 (by simp));obtain⟨eT,rfl,Zp,jV⟩:=F0 (hD 11 (by simp));replace hE:=((hE.fv tO).af jV);clear hA hD tO FZ jV F0;try simp only[aT,Act.put,List.setIfInBounds_toArray,List.set_cons_zero,List.set_cons_succ,List.getElem_toArray,List.getElem_cons_succ,List.getElem_cons_zero]
 have hHeld:(fun V=>ak 125 (gw) (tM x t gA gD b0 b1 j) V) W1:=hE.h5;refine r1 12 (fun K hK=> ?_)
 have aed:w.heap.size<=eT:=by omega
 obtain⟨akX,akY,akZ,ak0⟩:=(hE.here.2).c4;obtain⟨ak1,ak2,ak3,ak4⟩:=hE.here.2.f4;replace hE:=(((((((Env.again (ck hE.av aed (.bool sv) (.slice Av nv cv) (.bool tv) (.slice Bv mv dv))).af ((hE.h5).ai (by omega) _ _ _ _)).fv ((hE.h4).aq hE.here.2 rfl _ _ _ _ rfl rfl rfl)).fv ((hE.h3).aq hE.here.2 rfl _ _ _ _ rfl rfl rfl)).af ((hE.h2).ai (by omega) _ _ _ _)).fv ((hE.here.1.2).aq hE.here.2 rfl _ _ _ _ rfl rfl rfl)).af ((hE.here.2).s4 _ _ _ _));go_simp;clear akX akY akZ ak0 ak1 ak2 ak3 ak4 aed;generalize ((((W1.setCell ⟨eT,0,none⟩ (.bool sv)).setCell ⟨eT,1,none⟩ (.slice Av nv cv)).setCell ⟨eT,2,none⟩ (.bool tv)).setCell ⟨eT,3,none⟩ (.slice Bv mv dv))=W1 at hE⊢;refine hK.out _ _ (hE.h5) (fun hHeld=> ?_);clear hK K;try simp only[PL]
 refine wpAnyH_done (by kernel_rfl) ?_ _
 go_upto_region 2 with(fail)
 clear hw1 aeb aec Zp;replace hE:=hE.drew;refine wp_region_held_drew (S:=fun V=>ak 125 (gw) (tM x t gA gD b0 b1 j) V) (by kernel_rfl) (hE.h5) (fun hHeld=> ?_)
 generalize W1.drew=wd at*
 refine tk 0 ?_;refine tk 1 ?_;refine tk 2 ?_;refine tk 3 ?_
 refine tk 4 ?_ (hy:=by
  intro w ay;have Mh:=(ay).cell 13;have Mi:=(ay).cell 14;have Mj:=(ay).cell 15;have Zm:=(ay).cell 16;have Zn:=(ay).cell 17;have I4:=(ay).cell 18;have Zo:=(ay).cell 19;clear ay
  first|(go_simp;done)|(go_simp;with_reducible rfl))
 try simp only[PL]
 refine tk 5 ?_;refine tk 6 ?_;refine tk 7 ?_;refine tk 8 ?_
 refine tk 9 ?_ (hy:=by
  intro w ay;have uX:=(ay).cell 10;clear ay
  first|(go_simp;done)|(go_simp;with_reducible rfl))
 try simp only[PL]
 refine tk 10 ?_;refine tk 12 ?_;refine tk 13 ?_;refine tk 14 ?_;refine tk 15 ?_
 refine tk 16 ?_ (hy:=by
  intro w ay;have ak5:=(ay).cell 20;have ak6:=(ay).cell 21;have ak7:=(ay).cell 22;have ak8:=(ay).cell 23;have aee:=(ay).cell 24;have aef:=(ay).cell 25;have aeg:=(ay).cell 26;clear ay
  first|(go_simp;done)|(go_simp;with_reducible rfl))
 try simp only[PL]
 refine tk 17 ?_;refine tk 18 ?_;refine tk 19 ?_;refine tk 20 ?_
 refine tk 21 ?_ (hy:=by
  intro w ay;have uX:=(ay).cell 10;clear ay
  first|(go_simp;done)|(go_simp;with_reducible rfl))
 try simp only[PL]
 refine tk 22 ?_
 obtain⟨B2,DV⟩:∃B,B=wd.heap.size:=⟨_,rfl⟩
 have zP:w.heap.size<=B2:=by rw[DV];exact hE.av.size
 have MA:gw<B2:=by rw[DV];exact(hE.h5).lt
 have aeh:w.heap.size<B2:=by rw[DV];exact(hE.h2).lt
 have aei:eT<B2:=by rw[DV];exact(hE.here.2).lt
 refine dP (I:=cN w _ _ B2 [⟨11,40,eH qa⟩,⟨23,52,eH qu⟩,⟨24,4,jv 29 aY B2⟩,⟨25,5,jv 29 aY B2⟩]) [11,23,24,25] (f1:=2) (by kernel_rfl) (by kernel_rfl) (by kernel_rfl) rfl (by kernel_rfl) (by kernel_rfl) (by rfl) (cN.start hE DV (by kernel_rfl)) ?tP ?aej
 case tP=>
  have hst:∀g∈([⟨11,40,eH qa⟩,⟨23,52,eH qu⟩,⟨24,4,jv 29 aY B2⟩,⟨25,5,jv 29 aY B2⟩]:List bz),∀x,bq (g.R x):=(fun g hg=>by simp only[List.mem_cons,List.not_mem_nil,or_false] at hg;rcases hg with rfl|rfl|rfl|rfl<;>first|exact eH.stable _|exact jv.stable _ _ _|exact Kv.stable _|exact Kw.stable _)
  clear hE hHeld DV;refine aH.cons (ds:=[0,4,10]) rfl (by kernel_rfl) (fun D a W0 hI hD K hK=> ?_) ?_
  ·
   have hE:=hI.here;obtain⟨xs,rfl,-,hF,-,-⟩:=id hI;obtain⟨F1,xs,rfl,vM,hF⟩:=hF.ag;obtain⟨F2,xs,rfl,vN,hF⟩:=hF.ag;obtain⟨F3,xs,rfl,vO,hF⟩:=hF.ag;obtain⟨F4,xs,rfl,vP,hF⟩:=hF.ag;obtain rfl:=hF.nil;clear hF;try simp only[aT,Act.put,List.setIfInBounds_toArray,List.set_cons_zero,List.set_cons_succ,List.getElem_toArray,List.getElem_cons_succ,List.getElem_cons_zero]
   go_simp;refine(ff Zk.out (ow (b:=b0) (Bh.aA jG.out hE.av) fS.out (Ct.aA mB.out hE.av) fZ.out AU.out (b0.cnt x) ad8.out.2 (by omega) (show ak _ gw (nO x (t:Int) gA gD b0 b1 j) _ from hE.h5) u Mw)).mono ?_
   rintro e W1 ⟨sa,Aa,na,ca,ta,Ba,ma,da,rfl,hv,hb⟩
   have bG:=hE.step hb;go_wp2_with fail
   refine hK.out _ _ (bG.here.1.1.1.1.1.2) ?_;exact hI.call (c:=ca) (d:=da) 0 hst rfl (by kernel_rfl) (by kernel_rfl) (by kernel_rfl) hb hv
  refine aH.cons (ds:=[12,16,22,11]) rfl (by kernel_rfl) (fun D a W0 hI hD K hK=> ?_) ?_
  ·
   have hE:=hI.here;obtain⟨xs,rfl,-,hF,-,-⟩:=id hI;obtain⟨F1,xs,rfl,vM,hF⟩:=hF.ag;obtain⟨F2,xs,rfl,vN,hF⟩:=hF.ag;obtain⟨F3,xs,rfl,vO,hF⟩:=hF.ag;obtain⟨F4,xs,rfl,vP,hF⟩:=hF.ag;obtain rfl:=hF.nil;clear hF;try simp only[aT,Act.put,List.setIfInBounds_toArray,List.set_cons_zero,List.set_cons_succ,List.getElem_toArray,List.getElem_cons_succ,List.getElem_cons_zero]
   go_simp;refine(ff akP.out (ow (b:=b1) (Bh.aA Hhd.out hE.av) SY.out (Ct.aA mB.out hE.av) fZ.out FY.out (b1.cnt x) Mx.out.2 (by omega) (show ak _ gw (nO x (t:Int) gA gD b0 b1 j) _ from hE.h5) u Mw)).mono ?_
   rintro e W1 ⟨su,Au,nu,cu,tu,Bu,mu,du,rfl,hv,hb⟩
   have bG:=hE.step hb;go_wp2_with fail
   refine hK.out _ _ (bG.here.1.1.1.1.1.2) ?_;exact hI.call (c:=cu) (d:=du) 1 hst rfl (by kernel_rfl) (by kernel_rfl) (by kernel_rfl) hb hv
  refine aH.cons (ds:=[]) rfl (by kernel_rfl) (fun D a W0 hI hD K hK=> ?_) ?_
  ·
   have hE:=hI.here;obtain⟨xs,rfl,-,hF,-,-⟩:=id hI;obtain⟨F1,xs,rfl,vM,hF⟩:=hF.ag;obtain⟨F2,xs,rfl,vN,hF⟩:=hF.ag;obtain⟨F3,xs,rfl,vO,hF⟩:=hF.ag;obtain⟨F4,xs,rfl,vP,hF⟩:=hF.ag;obtain rfl:=hF.nil;clear hF;try simp only[aT,Act.put,List.setIfInBounds_toArray,List.set_cons_zero,List.set_cons_succ,List.getElem_toArray,List.getElem_cons_succ,List.getElem_cons_zero]
   go_simp;have bG:=hE.alloc (.cells aY 29);refine hK.out _ _ (bG.here.1.1.1.1.1.2) ?_;exact hI.alloc 2 hst rfl (by kernel_rfl) (by kernel_rfl) (by kernel_rfl)
  refine aH.cons (ds:=[]) rfl (by kernel_rfl) (fun D a W0 hI hD K hK=> ?_) ?_
  ·
   have hE:=hI.here;obtain⟨xs,rfl,-,hF,-,-⟩:=id hI;obtain⟨F1,xs,rfl,vM,hF⟩:=hF.ag;obtain⟨F2,xs,rfl,vN,hF⟩:=hF.ag;obtain⟨F3,xs,rfl,vO,hF⟩:=hF.ag;obtain⟨F4,xs,rfl,vP,hF⟩:=hF.ag;obtain rfl:=hF.nil;clear hF;try simp only[aT,Act.put,List.setIfInBounds_toArray,List.set_cons_zero,List.set_cons_succ,List.getElem_toArray,List.getElem_cons_succ,List.getElem_cons_zero]
   go_simp;have bG:=hE.alloc (.cells aY 29);refine hK.out _ _ (bG.here.1.1.1.1.1.2) ?_;exact hI.alloc 3 hst rfl (by kernel_rfl) (by kernel_rfl) (by kernel_rfl)
  exact aH.nil
 clear hE hHeld DV;intro D a W2 hI hD;have hE:=hI.here;obtain⟨xs,rfl,-,hF,hA,-⟩:=id hI;clear hI;obtain⟨F1,xs,rfl,vM,hF⟩:=hF.ag;obtain⟨F2,xs,rfl,vN,hF⟩:=hF.ag;obtain⟨F3,xs,rfl,vO,hF⟩:=hF.ag;obtain⟨F4,xs,rfl,vP,hF⟩:=hF.ag;obtain rfl:=hF.nil;clear hF;obtain⟨sa,Aa,na,ca,ta,Ba,ma,da,rfl,jV⟩:=vM (hD 11 (by simp));obtain⟨su,Au,nu,cu,tu,Bu,mu,du,rfl,AV⟩:=vN (hD 23 (by simp));obtain⟨gh,rfl,Zq,AW⟩:=vO (hD 24 (by simp));obtain⟨gj,rfl,Zr,AX⟩:=vP (hD 25 (by simp));have I5:=hA.ne 2 3 (by decide) rfl rfl rfl rfl (hD 24 (by simp)) (hD 25 (by simp));replace hE:=((((hE.fv jV).fv AV).af AW).af AX);clear hA hD jV vM AV vN AW vO AX vP;try simp only[aT,Act.put,List.setIfInBounds_toArray,List.set_cons_zero,List.set_cons_succ,List.getElem_toArray,List.getElem_cons_succ,List.getElem_cons_zero]
 have hHeld:(fun V=>ak 125 (gw) (tM x t gA gD b0 b1 j) V) W2:=hE.h9;refine r1 26 (fun K hK=> ?_)
 have aek:w.heap.size<=gh:=by omega
 obtain⟨ak9,ala,alb,alc⟩:=(hE.here.1.2).c4;obtain⟨ald,ale,alf,alg⟩:=hE.here.1.2.f4;replace hE:=(((((((((((Env.again (ck hE.av aek (.bool sa) (.slice Aa na ca) (.bool ta) (.slice Ba ma da))).af ((hE.h9).ai (by omega) _ _ _ _)).fv ((hE.h8).aq hE.here.1.2 rfl _ _ _ _ rfl rfl rfl)).fv ((hE.h7).aq hE.here.1.2 rfl _ _ _ _ rfl rfl rfl)).af ((hE.h6).ai (by omega) _ _ _ _)).fv ((hE.h5).aq hE.here.1.2 rfl _ _ _ _ rfl rfl rfl)).af ((hE.h4).ai (by omega) _ _ _ _)).fv ((hE.h3).aq hE.here.1.2 rfl _ _ _ _ rfl rfl rfl)).fv ((hE.h2).aq hE.here.1.2 rfl _ _ _ _ rfl rfl rfl)).af ((hE.here.1.2).s4 _ _ _ _)).af ((hE.here.2).ai (by omega) _ _ _ _));go_simp;clear ak9 ala alb alc ald ale alf alg aek;generalize ((((W2.setCell ⟨gh,0,none⟩ (.bool sa)).setCell ⟨gh,1,none⟩ (.slice Aa na ca)).setCell ⟨gh,2,none⟩ (.bool ta)).setCell ⟨gh,3,none⟩ (.slice Ba ma da))=W2 at hE⊢;refine hK.out _ _ (hE.h9) (fun hHeld=> ?_);clear hK K;try simp only[PL]
 refine r1 27 (fun K hK=> ?_)
 have MB:w.heap.size<=gj:=by omega
 obtain⟨Zs,alh,ali,alj⟩:=(hE.here.2).c4;obtain⟨Zt,alk,alm,aln⟩:=hE.here.2.f4;replace hE:=(((((((((((Env.again (ck hE.av MB (.bool su) (.slice Au nu cu) (.bool tu) (.slice Bu mu du))).af ((hE.h9).ai (by omega) _ _ _ _)).fv ((hE.h8).aq hE.here.2 rfl _ _ _ _ rfl rfl rfl)).fv ((hE.h7).aq hE.here.2 rfl _ _ _ _ rfl rfl rfl)).af ((hE.h6).ai (by omega) _ _ _ _)).fv ((hE.h5).aq hE.here.2 rfl _ _ _ _ rfl rfl rfl)).af ((hE.h4).ai (by omega) _ _ _ _)).fv ((hE.h3).aq hE.here.2 rfl _ _ _ _ rfl rfl rfl)).fv ((hE.h2).aq hE.here.2 rfl _ _ _ _ rfl rfl rfl)).af ((hE.here.1.2).ai (by omega) _ _ _ _)).af ((hE.here.2).s4 _ _ _ _));go_simp;clear Zs alh ali alj Zt alk alm aln MB;generalize ((((W2.setCell ⟨gj,0,none⟩ (.bool su)).setCell ⟨gj,1,none⟩ (.slice Au nu cu)).setCell ⟨gj,2,none⟩ (.bool tu)).setCell ⟨gj,3,none⟩ (.slice Bu mu du))=W3 at hE⊢;refine hK.out _ _ (hE.h9) (fun hHeld=> ?_);clear hK K;try simp only[PL]
 refine wpAnyH_done (by kernel_rfl) ?_ _
 go_upto_region 3 with(fail)
 clear zP MA aeh aei Zq Zr I5;go_wp2_with fail
 refine hE.fr (aR 0 _ (by decide) (by decide)) ?_;clear hE;intro sz Az nz cz tz Bz mz dz w4 hE
 go_upto_region 4 with(fail)
 obtain⟨g5,mT⟩:∃g5,g5=w4.heap.size:=⟨_,rfl⟩
 have Me:gw<g5:=by rw[mT];exact(hE.h10).lt
 have aoH:w.heap.size<g5:=by rw[mT];exact(hE.h7).lt
 have aoI:eT<g5:=by rw[mT];exact(hE.h5).lt
 have aoJ:gh<g5:=by rw[mT];exact(hE.h2).lt
 have aoK:gj<g5:=by rw[mT];exact(hE.here.1.2).lt
 replace hE:=hE.blk 29 (az sz Az nz cz tz Bz mz dz) (g:=g5) mT.symm;generalize w4.alloc (.cells (az sz Az nz cz tz Bz mz dz) 29)=W5 at hE⊢;rw[<-mT];clear mT;replace hE:=hE.drew;refine wp_region_held_drew (S:=fun V=>ak 125 (gw) (tM x t gA gD b0 b1 j) V) (by kernel_rfl) (hE.h11) (fun hHeld=> ?_)
 generalize W5.drew=wd at*
 refine tk 0 ?_;refine tk 1 ?_;refine tk 2 ?_;refine tk 3 ?_
 refine tk 4 ?_ (hy:=by
  intro w ay;have uX:=(ay).cell 10;clear ay
  first|(go_simp;done)|(go_simp;with_reducible rfl))
 try simp only[PL]
 refine tk 5 ?_;refine tk 6 ?_;refine tk 7 ?_;refine tk 8 ?_;refine tk 9 ?_
 refine tk 10 ?_ (hy:=by
  intro w ay;have jc:=(ay).cell 3;clear ay
  first|(go_simp;done)|(go_simp;with_reducible rfl))
 try simp only[PL]
 refine tk 11 ?_;refine wpAnyH_done (by kernel_rfl) ?_ _
 go_upto_if 65 with(fail)
 go_cut [6] from 18 to 72 (fun p wx=>∃sp Ap np cp tp Bp mp dp,p= .pointer (some ⟨g5,0,none⟩)/\Env w (fun V=>((((((((((((True/\ak 125 (gw) (tM x t gA gD b0 b1 j) V)/\FV V qi b0.i.s b0.i.A b0.i.n b0.i.t b0.i.B b0.i.m)/\FV V qj j.s j.A j.n j.t j.B j.m)/\ak 126 (w.heap.size) #[.bool false,.slice none 0 0,.bool false,.slice none 0 0,.bool false,.slice none 0 0,.bool false,.slice none 0 0,.bool false,.slice none 0 0,.bool false,.slice none 0 0,.bool false,.slice none 0 0,.bool false,.slice none 0 0,.bool false,.slice none 0 0,.bool false,.slice none 0 0,.bool false,.slice none 0 0,.bool false,.slice none 0 0,.bool false,.slice none 0 0,.bool false,.slice none 0 0,.bool false,.slice none 0 0,.bool false,.slice none 0 0,.bool false,.slice none 0 0,.bool false,.slice none 0 0,.bool false,.slice none 0 0,.bool false,.slice none 0 0] V)/\FV V qv sv Av nv tv Bv mv)/\ak 29 (eT) (az sv Av nv cv tv Bv mv dv) V)/\FV V qa sa Aa na ta Ba ma)/\FV V qu su Au nu tu Bu mu)/\ak 29 (gh) (az sa Aa na ca ta Ba ma da) V)/\ak 29 (gj) (az su Au nu cu tu Bu mu du) V)/\ak 29 (g5) (az sp Ap np cp tp Bp mp dp) V)/\FV V qp sp Ap np tp Bp mp)) wx)
 case first=>
  by_cases hT:(t:Int)<x.T
  ·
   have d1:decide ((t:Int)<x.T)=true:=decide_eq_true hT;have hpq:=akS.out.below hE.av;rw[ad9.out hT] at hpq;replace hE:=hE.fv hpq;clear hpq;have k6:=(hE.h12).cell 4;have k7:=(hE.h12).cell 5;have k8:=(hE.h12).cell 6;have k9:=(hE.h12).cell 7
   have mF:w.heap.size<=g5:=by omega
   obtain⟨tQ,tR,AY,AZ⟩:=(hE.here.1.2).c4;obtain⟨tS,tT,Bk,BA⟩:=hE.here.1.2.f4;replace hE:=((((((((((((((Env.again (ck hE.av mF (.bool x.p.s) (.slice x.p.A x.p.n x.p.c) (.bool x.p.t) (.slice x.p.B x.p.m x.p.d))).af ((hE.h12).ai (by omega) _ _ _ _)).fv ((hE.h11).aq hE.here.1.2 rfl _ _ _ _ rfl rfl rfl)).fv ((hE.h10).aq hE.here.1.2 rfl _ _ _ _ rfl rfl rfl)).af ((hE.h9).ai (by omega) _ _ _ _)).fv ((hE.h8).aq hE.here.1.2 rfl _ _ _ _ rfl rfl rfl)).af ((hE.h7).ai (by omega) _ _ _ _)).fv ((hE.h6).aq hE.here.1.2 rfl _ _ _ _ rfl rfl rfl)).fv ((hE.h5).aq hE.here.1.2 rfl _ _ _ _ rfl rfl rfl)).af ((hE.h4).ai (by omega) _ _ _ _)).af ((hE.h3).ai (by omega) _ _ _ _)).fv ((hE.h2).aq hE.here.1.2 rfl _ _ _ _ rfl rfl rfl)).af ((hE.here.1.2).s4 _ _ _ _)).fv ((hE.here.2).aq hE.here.1.2 rfl _ _ _ _ rfl rfl rfl));go_wp2_with fail
   clear tQ tR AY AZ tS tT Bk BA mF;generalize ((((wd.setCell ⟨g5,0,none⟩ (.bool x.p.s)).setCell ⟨g5,1,none⟩ (.slice x.p.A x.p.n x.p.c)).setCell ⟨g5,2,none⟩ (.bool x.p.t)).setCell ⟨g5,3,none⟩ (.slice x.p.B x.p.m x.p.d))=uV at hE⊢;clear k6 k7 k8 k9;go_meet
   exact⟨x.p.s,x.p.A,x.p.n,x.p.c,x.p.t,x.p.B,x.p.m,x.p.d,rfl,(((((((((((((Env.again hE.av).af (hE.h12)).fv (hE.h11)).fv (hE.h10)).af (hE.h9)).fv (hE.h8)).af (hE.h7)).fv (hE.h6)).fv (hE.h5)).af (hE.h4)).af (hE.h3)).af (hE.here.1.2)).fv (hE.here.2))⟩
  ·
   have d1:decide ((t:Int)<x.T)=false:=decide_eq_false hT;go_wp2_with fail
   go_meet
   exact⟨sz,Az,nz,cz,tz,Bz,mz,dz,rfl,(((((((((((((Env.again hE.av).af (hE.h11)).fv (hE.h10)).fv (hE.h9)).af (hE.h8)).fv (hE.h7)).af (hE.h6)).fv (hE.h5)).fv (hE.h4)).af (hE.h3)).af (hE.h2)).af (hE.here.2)).fv (show FV _ qp _ _ _ _ _ _ from by rw[<-aea.out hT];exact hE.here.1.2))⟩
 case rest=>
 clear hE;obtain⟨sp,Ap,np,cp,tp,Bp,mp,dp,rfl,hE⟩:=hcut;generalize wc=wk4 at hE⊢
 go_upto_region 6 with(fail)
 replace hE:=hE.drew;refine wp_region_held_drew (S:=fun V=>ak 125 (gw) (tM x t gA gD b0 b1 j) V) (by kernel_rfl) (hE.h11) (fun hHeld=> ?_)
 generalize wk4.drew=wd at*
 refine tk 0 ?_;refine tk 1 ?_;refine tk 2 ?_;refine tk 3 ?_;refine tk 4 ?_
 refine tk 5 ?_ (hy:=by
  intro w ay;have QI:=(ay).cell 8;clear ay
  first|(go_simp;done)|(go_simp;with_reducible rfl))
 try simp only[PL]
 refine tk 6 ?_;refine tk 7 ?_;refine tk 8 ?_;refine tk 9 ?_
 refine tk 10 ?_ (hy:=by
  intro w ay;have uX:=(ay).cell 10;clear ay
  first|(go_simp;done)|(go_simp;with_reducible rfl))
 try simp only[PL]
 refine tk 12 ?_;refine tk 13 ?_;refine tk 14 ?_;refine tk 15 ?_;refine tk 16 ?_
 refine tk 17 ?_ (hy:=by
  intro w ay;have Rt:=(ay).cell 9;clear ay
  first|(go_simp;done)|(go_simp;with_reducible rfl))
 try simp only[PL]
 refine tk 18 ?_;refine tk 19 ?_;refine tk 20 ?_;refine tk 21 ?_
 refine tk 22 ?_ (hy:=by
  intro w ay;have uX:=(ay).cell 10;clear ay
  first|(go_simp;done)|(go_simp;with_reducible rfl))
 try simp only[PL]
 obtain⟨B6,QK⟩:∃B,B=wd.heap.size:=⟨_,rfl⟩
 have hw6:w.heap.size<=B6:=by rw[QK];exact hE.av.size
 have Wq:gw<B6:=by rw[QK];exact(hE.h11).lt
 have BB:w.heap.size<B6:=by rw[QK];exact(hE.h8).lt
 have ael:eT<B6:=by rw[QK];exact(hE.h6).lt
 have aem:gh<B6:=by rw[QK];exact(hE.h3).lt
 have aen:gj<B6:=by rw[QK];exact(hE.h2).lt
 have Zu:g5<B6:=by rw[QK];exact(hE.here.1.2).lt
 refine dP (I:=cN w _ _ B6 [⟨11,83,eH ql⟩,⟨23,95,eH qd⟩,⟨24,7,jv 29 aY B6⟩,⟨25,8,jv 29 aY B6⟩]) [11,23,24,25] (f1:=2) (by kernel_rfl) (by kernel_rfl) (by kernel_rfl) rfl (by kernel_rfl) (by kernel_rfl) (by rfl) (cN.start hE QK (by kernel_rfl)) ?Eu ?alo
 case Eu=>
  have hst:∀g∈([⟨11,83,eH ql⟩,⟨23,95,eH qd⟩,⟨24,7,jv 29 aY B6⟩,⟨25,8,jv 29 aY B6⟩]:List bz),∀x,bq (g.R x):=(fun g hg=>by simp only[List.mem_cons,List.not_mem_nil,or_false] at hg;rcases hg with rfl|rfl|rfl|rfl<;>first|exact eH.stable _|exact jv.stable _ _ _|exact Kv.stable _|exact Kw.stable _)
  clear hE hHeld QK;refine aH.cons (ds:=[5,10]) rfl (by kernel_rfl) (fun D a W0 hI hD K hK=> ?_) ?_
  ·
   have hE:=hI.here;obtain⟨xs,rfl,-,hF,-,-⟩:=id hI;obtain⟨F5,xs,rfl,vQ,hF⟩:=hF.ag;obtain⟨F6,xs,rfl,vR,hF⟩:=hF.ag;obtain⟨F7,xs,rfl,vS,hF⟩:=hF.ag;obtain⟨F8,xs,rfl,vT,hF⟩:=hF.ag;obtain rfl:=hF.nil;clear hF;try simp only[aT,Act.put,List.setIfInBounds_toArray,List.set_cons_zero,List.set_cons_succ,List.getElem_toArray,List.getElem_cons_succ,List.getElem_cons_zero]
   go_simp;refine(ff akQ.out (vK (Ct.aA mB.out hE.av).2.1 akU.out t Zi)).mono ?_
   rintro e W1 ⟨sl,Al,nl,cl,tl,Bl,ml,dl,rfl,hv,hb⟩
   have bG:=hE.step hb;go_wp2_with fail
   refine hK.out _ _ (bG.here.1.1.1.1.1.1.1.1.1.1.1.2) ?_;exact hI.call (c:=cl) (d:=dl) 0 hst rfl (by kernel_rfl) (by kernel_rfl) (by kernel_rfl) hb hv
  refine aH.cons (ds:=[17,22,11]) rfl (by kernel_rfl) (fun D a W0 hI hD K hK=> ?_) ?_
  ·
   have hE:=hI.here;obtain⟨xs,rfl,-,hF,-,-⟩:=id hI;obtain⟨F5,xs,rfl,vQ,hF⟩:=hF.ag;obtain⟨F6,xs,rfl,vR,hF⟩:=hF.ag;obtain⟨F7,xs,rfl,vS,hF⟩:=hF.ag;obtain⟨F8,xs,rfl,vT,hF⟩:=hF.ag;obtain rfl:=hF.nil;clear hF;try simp only[aT,Act.put,List.setIfInBounds_toArray,List.set_cons_zero,List.set_cons_succ,List.getElem_toArray,List.getElem_cons_succ,List.getElem_cons_zero]
   go_simp;refine(ff akR.out (vK (Ct.aA mB.out hE.av).2.2 My.out t Zi)).mono ?_
   rintro e W1 ⟨sd,Ad,nd,cd,td,Bd,md,dd,rfl,hv,hb⟩
   have bG:=hE.step hb;go_wp2_with fail
   refine hK.out _ _ (bG.here.1.1.1.1.1.1.1.1.1.1.1.2) ?_;exact hI.call (c:=cd) (d:=dd) 1 hst rfl (by kernel_rfl) (by kernel_rfl) (by kernel_rfl) hb hv
  refine aH.cons (ds:=[]) rfl (by kernel_rfl) (fun D a W0 hI hD K hK=> ?_) ?_
  ·
   have hE:=hI.here;obtain⟨xs,rfl,-,hF,-,-⟩:=id hI;obtain⟨F5,xs,rfl,vQ,hF⟩:=hF.ag;obtain⟨F6,xs,rfl,vR,hF⟩:=hF.ag;obtain⟨F7,xs,rfl,vS,hF⟩:=hF.ag;obtain⟨F8,xs,rfl,vT,hF⟩:=hF.ag;obtain rfl:=hF.nil;clear hF;try simp only[aT,Act.put,List.setIfInBounds_toArray,List.set_cons_zero,List.set_cons_succ,List.getElem_toArray,List.getElem_cons_succ,List.getElem_cons_zero]
   go_simp;have bG:=hE.alloc (.cells aY 29);refine hK.out _ _ (bG.here.1.1.1.1.1.1.1.1.1.1.1.2) ?_;exact hI.alloc 2 hst rfl (by kernel_rfl) (by kernel_rfl) (by kernel_rfl)
  refine aH.cons (ds:=[]) rfl (by kernel_rfl) (fun D a W0 hI hD K hK=> ?_) ?_
  ·
   have hE:=hI.here;obtain⟨xs,rfl,-,hF,-,-⟩:=id hI;obtain⟨F5,xs,rfl,vQ,hF⟩:=hF.ag;obtain⟨F6,xs,rfl,vR,hF⟩:=hF.ag;obtain⟨F7,xs,rfl,vS,hF⟩:=hF.ag;obtain⟨F8,xs,rfl,vT,hF⟩:=hF.ag;obtain rfl:=hF.nil;clear hF;try simp only[aT,Act.put,List.setIfInBounds_toArray,List.set_cons_zero,List.set_cons_succ,List.getElem_toArray,List.getElem_cons_succ,List.getElem_cons_zero]
   go_simp;have bG:=hE.alloc (.cells aY 29);refine hK.out _ _ (bG.here.1.1.1.1.1.1.1.1.1.1.1.2) ?_;exact hI.alloc 3 hst rfl (by kernel_rfl) (by kernel_rfl) (by kernel_rfl)
  exact aH.nil
 clear hE hHeld QK;intro D a W6 hI hD;have hE:=hI.here;obtain⟨xs,rfl,-,hF,hA,-⟩:=id hI;clear hI;obtain⟨F5,xs,rfl,vQ,hF⟩:=hF.ag;obtain⟨F6,xs,rfl,vR,hF⟩:=hF.ag;obtain⟨F7,xs,rfl,vS,hF⟩:=hF.ag;obtain⟨F8,xs,rfl,vT,hF⟩:=hF.ag;obtain rfl:=hF.nil;clear hF;obtain⟨sl,Al,nl,cl,tl,Bl,ml,dl,rfl,jV⟩:=vQ (hD 11 (by simp));obtain⟨sd,Ad,nd,cd,td,Bd,md,dd,rfl,AV⟩:=vR (hD 23 (by simp));obtain⟨gL,rfl,Zv,AW⟩:=vS (hD 24 (by simp));obtain⟨jd,rfl,Zw,AX⟩:=vT (hD 25 (by simp));have I6:=hA.ne 2 3 (by decide) rfl rfl rfl rfl (hD 24 (by simp)) (hD 25 (by simp));replace hE:=((((hE.fv jV).fv AV).af AW).af AX);clear hA hD jV vQ AV vR AW vS AX vT;try simp only[aT,Act.put,List.setIfInBounds_toArray,List.set_cons_zero,List.set_cons_succ,List.getElem_toArray,List.getElem_cons_succ,List.getElem_cons_zero]
 have hHeld:(fun V=>ak 125 (gw) (tM x t gA gD b0 b1 j) V) W6:=hE.e8.1.1.1.1.1.1.1.2;refine r1 26 (fun K hK=> ?_)
 have Ws:w.heap.size<=gL:=by omega
 obtain⟨aeo,aep,aeq,aer⟩:=(hE.here.1.2).c4;obtain⟨aes,aet,aeu,aev⟩:=hE.here.1.2.f4;replace hE:=(((((((((((((((((Env.again (ck hE.av Ws (.bool sl) (.slice Al nl cl) (.bool tl) (.slice Bl ml dl))).af ((hE.e8.1.1.1.1.1.1.1.2).ai (by omega) _ _ _ _)).fv ((hE.e8.1.1.1.1.1.1.2).aq hE.here.1.2 rfl _ _ _ _ rfl rfl rfl)).fv ((hE.bZ).aq hE.here.1.2 rfl _ _ _ _ rfl rfl rfl)).af ((hE.h12).ai (by omega) _ _ _ _)).fv ((hE.h11).aq hE.here.1.2 rfl _ _ _ _ rfl rfl rfl)).af ((hE.h10).ai (by omega) _ _ _ _)).fv ((hE.h9).aq hE.here.1.2 rfl _ _ _ _ rfl rfl rfl)).fv ((hE.h8).aq hE.here.1.2 rfl _ _ _ _ rfl rfl rfl)).af ((hE.h7).ai (by omega) _ _ _ _)).af ((hE.h6).ai (by omega) _ _ _ _)).af ((hE.h5).ai (by omega) _ _ _ _)).fv ((hE.h4).aq hE.here.1.2 rfl _ _ _ _ rfl rfl rfl)).fv ((hE.h3).aq hE.here.1.2 rfl _ _ _ _ rfl rfl rfl)).fv ((hE.h2).aq hE.here.1.2 rfl _ _ _ _ rfl rfl rfl)).af ((hE.here.1.2).s4 _ _ _ _)).af ((hE.here.2).ai (by omega) _ _ _ _));go_simp;clear aeo aep aeq aer aes aet aeu aev Ws;generalize ((((W6.setCell ⟨gL,0,none⟩ (.bool sl)).setCell ⟨gL,1,none⟩ (.slice Al nl cl)).setCell ⟨gL,2,none⟩ (.bool tl)).setCell ⟨gL,3,none⟩ (.slice Bl ml dl))=W11 at hE⊢;refine hK.out _ _ (hE.e8.1.1.1.1.1.1.1.2) (fun hHeld=> ?_);clear hK K;try simp only[PL]
 refine r1 27 (fun K hK=> ?_)
 have Wt:w.heap.size<=jd:=by omega
 obtain⟨aew,aex,aey,aez⟩:=(hE.here.2).c4;obtain⟨aeA,aeB,aeC,aeD⟩:=hE.here.2.f4;replace hE:=(((((((((((((((((Env.again (ck hE.av Wt (.bool sd) (.slice Ad nd cd) (.bool td) (.slice Bd md dd))).af ((hE.e8.1.1.1.1.1.1.1.2).ai (by omega) _ _ _ _)).fv ((hE.e8.1.1.1.1.1.1.2).aq hE.here.2 rfl _ _ _ _ rfl rfl rfl)).fv ((hE.bZ).aq hE.here.2 rfl _ _ _ _ rfl rfl rfl)).af ((hE.h12).ai (by omega) _ _ _ _)).fv ((hE.h11).aq hE.here.2 rfl _ _ _ _ rfl rfl rfl)).af ((hE.h10).ai (by omega) _ _ _ _)).fv ((hE.h9).aq hE.here.2 rfl _ _ _ _ rfl rfl rfl)).fv ((hE.h8).aq hE.here.2 rfl _ _ _ _ rfl rfl rfl)).af ((hE.h7).ai (by omega) _ _ _ _)).af ((hE.h6).ai (by omega) _ _ _ _)).af ((hE.h5).ai (by omega) _ _ _ _)).fv ((hE.h4).aq hE.here.2 rfl _ _ _ _ rfl rfl rfl)).fv ((hE.h3).aq hE.here.2 rfl _ _ _ _ rfl rfl rfl)).fv ((hE.h2).aq hE.here.2 rfl _ _ _ _ rfl rfl rfl)).af ((hE.here.1.2).ai (by omega) _ _ _ _)).af ((hE.here.2).s4 _ _ _ _));go_simp;clear aew aex aey aez aeA aeB aeC aeD Wt;generalize ((((W11.setCell ⟨jd,0,none⟩ (.bool sd)).setCell ⟨jd,1,none⟩ (.slice Ad nd cd)).setCell ⟨jd,2,none⟩ (.bool td)).setCell ⟨jd,3,none⟩ (.slice Bd md dd))=W12 at hE⊢;refine hK.out _ _ (hE.e8.1.1.1.1.1.1.1.2) (fun hHeld=> ?_);clear hK K;try simp only[PL]
 refine wpAnyH_done (by kernel_rfl) ?_ _
 go_upto_region 7 with(fail)
 clear hw6 Wq BB ael aem aen Zu Zv Zw I6;replace hE:=hE.drew;refine wp_region_held_drew (S:=fun V=>ak 125 (gw) (tM x t gA gD b0 b1 j) V) (by kernel_rfl) (hE.e8.1.1.1.1.1.1.1.2) (fun hHeld=> ?_)
 generalize W12.drew=wd at*
 refine tk 0 ?_;refine tk 1 ?_;refine tk 2 ?_;refine tk 3 ?_
 refine tk 4 ?_ (hy:=by
  intro w ay;have Zm:=(ay).cell 16;have Zn:=(ay).cell 17;have I4:=(ay).cell 18;have Zo:=(ay).cell 19;clear ay
  first|(go_simp;done)|(go_simp;with_reducible rfl))
 try simp only[PL]
 refine tk 5 ?_;refine tk 6 ?_;refine tk 7 ?_
 refine tk 8 ?_ (hy:=by
  intro w ay;have aeE:=(ay).cell 27;have alp:=(ay).cell 28;have alq:=(ay).cell 29;have alr:=(ay).cell 30;clear ay
  first|(go_simp;done)|(go_simp;with_reducible rfl))
 try simp only[PL]
 refine tk 9 ?_
 obtain⟨B7,Kx⟩:∃B,B=wd.heap.size:=⟨_,rfl⟩
 have hw7:w.heap.size<=B7:=by rw[Kx];exact hE.av.size
 have aeF:gw<B7:=by rw[Kx];exact(hE.e8.1.1.1.1.1.1.1.2).lt
 have aeG:w.heap.size<B7:=by rw[Kx];exact(hE.h12).lt
 have aeH:eT<B7:=by rw[Kx];exact(hE.h10).lt
 have aeI:gh<B7:=by rw[Kx];exact(hE.h7).lt
 have aeJ:gj<B7:=by rw[Kx];exact(hE.h6).lt
 have Zx:g5<B7:=by rw[Kx];exact(hE.h5).lt
 have Zy:gL<B7:=by rw[Kx];exact(hE.here.1.2).lt
 have Zz:jd<B7:=by rw[Kx];exact(hE.here.2).lt
 refine dP (I:=cN w _ _ B7 [⟨10,106,eH qq⟩,⟨11,9,jv 29 aY B7⟩,⟨12,10,jv 29 aY B7⟩,⟨13,11,jv 29 aY B7⟩]) [10,11,12,13] (f1:=3) (by kernel_rfl) (by kernel_rfl) (by kernel_rfl) rfl (by kernel_rfl) (by kernel_rfl) (by rfl) (cN.start hE Kx (by kernel_rfl)) ?ZA ?aqq
 case ZA=>
  have hst:∀g∈([⟨10,106,eH qq⟩,⟨11,9,jv 29 aY B7⟩,⟨12,10,jv 29 aY B7⟩,⟨13,11,jv 29 aY B7⟩]:List bz),∀x,bq (g.R x):=(fun g hg=>by simp only[List.mem_cons,List.not_mem_nil,or_false] at hg;rcases hg with rfl|rfl|rfl|rfl<;>first|exact eH.stable _|exact jv.stable _ _ _|exact Kv.stable _|exact Kw.stable _)
  clear hE hHeld Kx;refine aH.cons (ds:=[9]) rfl (by kernel_rfl) (fun D a W0 hI hD K hK=> ?_) ?_
  ·
   have hE:=hI.here;obtain⟨xs,rfl,-,hF,-,-⟩:=id hI;obtain⟨F9,xs,rfl,vU,hF⟩:=hF.ag;obtain⟨Ga,xs,rfl,vV,hF⟩:=hF.ag;obtain⟨Gb,xs,rfl,vW,hF⟩:=hF.ag;obtain⟨Gc,xs,rfl,vX,hF⟩:=hF.ag;obtain rfl:=hF.nil;clear hF;try simp only[aT,Act.put,List.setIfInBounds_toArray,List.set_cons_zero,List.set_cons_succ,List.getElem_toArray,List.getElem_cons_succ,List.getElem_cons_zero]
   go_simp;refine(ff yB.out (Rv (Bh.aA jG.out hE.av) akV.out Zl.out akO (show ak _ gw (nO x (t:Int) gA gD b0 b1 j) _ from hE.e8.1.1.1.1.1.1.1.2))).mono ?_
   rintro e W1 ⟨sq,Aq,nq,cq,tq,Bq,mq,dq,rfl,hv,hb⟩
   have bG:=hE.step hb;go_wp2_with fail
   refine hK.out _ _ (bG.e8.1.1.1.1.1.1.1.2) ?_;exact hI.call (c:=cq) (d:=dq) 0 hst rfl (by kernel_rfl) (by kernel_rfl) (by kernel_rfl) hb hv
  refine aH.cons (ds:=[]) rfl (by kernel_rfl) (fun D a W0 hI hD K hK=> ?_) ?_
  ·
   have hE:=hI.here;obtain⟨xs,rfl,-,hF,-,-⟩:=id hI;obtain⟨F9,xs,rfl,vU,hF⟩:=hF.ag;obtain⟨Ga,xs,rfl,vV,hF⟩:=hF.ag;obtain⟨Gb,xs,rfl,vW,hF⟩:=hF.ag;obtain⟨Gc,xs,rfl,vX,hF⟩:=hF.ag;obtain rfl:=hF.nil;clear hF;try simp only[aT,Act.put,List.setIfInBounds_toArray,List.set_cons_zero,List.set_cons_succ,List.getElem_toArray,List.getElem_cons_succ,List.getElem_cons_zero]
   go_simp;have bG:=hE.alloc (.cells aY 29);refine hK.out _ _ (bG.e8.1.1.1.1.1.1.1.2) ?_;exact hI.alloc 1 hst rfl (by kernel_rfl) (by kernel_rfl) (by kernel_rfl)
  refine aH.cons (ds:=[]) rfl (by kernel_rfl) (fun D a W0 hI hD K hK=> ?_) ?_
  ·
   have hE:=hI.here;obtain⟨xs,rfl,-,hF,-,-⟩:=id hI;obtain⟨F9,xs,rfl,vU,hF⟩:=hF.ag;obtain⟨Ga,xs,rfl,vV,hF⟩:=hF.ag;obtain⟨Gb,xs,rfl,vW,hF⟩:=hF.ag;obtain⟨Gc,xs,rfl,vX,hF⟩:=hF.ag;obtain rfl:=hF.nil;clear hF;try simp only[aT,Act.put,List.setIfInBounds_toArray,List.set_cons_zero,List.set_cons_succ,List.getElem_toArray,List.getElem_cons_succ,List.getElem_cons_zero]
   go_simp;have bG:=hE.alloc (.cells aY 29);refine hK.out _ _ (bG.e8.1.1.1.1.1.1.1.2) ?_;exact hI.alloc 2 hst rfl (by kernel_rfl) (by kernel_rfl) (by kernel_rfl)
  refine aH.cons (ds:=[]) rfl (by kernel_rfl) (fun D a W0 hI hD K hK=> ?_) ?_
  ·
   have hE:=hI.here;obtain⟨xs,rfl,-,hF,-,-⟩:=id hI;obtain⟨F9,xs,rfl,vU,hF⟩:=hF.ag;obtain⟨Ga,xs,rfl,vV,hF⟩:=hF.ag;obtain⟨Gb,xs,rfl,vW,hF⟩:=hF.ag;obtain⟨Gc,xs,rfl,vX,hF⟩:=hF.ag;obtain rfl:=hF.nil;clear hF;try simp only[aT,Act.put,List.setIfInBounds_toArray,List.set_cons_zero,List.set_cons_succ,List.getElem_toArray,List.getElem_cons_succ,List.getElem_cons_zero]
   go_simp;have bG:=hE.alloc (.cells aY 29);refine hK.out _ _ (bG.e8.1.1.1.1.1.1.1.2) ?_;exact hI.alloc 3 hst rfl (by kernel_rfl) (by kernel_rfl) (by kernel_rfl)
  exact aH.nil
 clear hE hHeld Kx;intro D a W7 hI hD;have hE:=hI.here;obtain⟨xs,rfl,-,hF,hA,-⟩:=id hI;clear hI;obtain⟨F9,xs,rfl,vU,hF⟩:=hF.ag;obtain⟨Ga,xs,rfl,vV,hF⟩:=hF.ag;obtain⟨Gb,xs,rfl,vW,hF⟩:=hF.ag;obtain⟨Gc,xs,rfl,vX,hF⟩:=hF.ag;obtain rfl:=hF.nil;clear hF;obtain⟨sq,Aq,nq,cq,tq,Bq,mq,dq,rfl,tO⟩:=vU (hD 10 (by simp));obtain⟨iD,rfl,ZB,jV⟩:=vV (hD 11 (by simp));obtain⟨jr,rfl,ZC,MC⟩:=vW (hD 12 (by simp));obtain⟨js,rfl,ZD,MD⟩:=vX (hD 13 (by simp));have I7:=hA.ne 1 2 (by decide) rfl rfl rfl rfl (hD 11 (by simp)) (hD 12 (by simp));have I8:=hA.ne 1 3 (by decide) rfl rfl rfl rfl (hD 11 (by simp)) (hD 13 (by simp));have I9:=hA.ne 2 3 (by decide) rfl rfl rfl rfl (hD 12 (by simp)) (hD 13 (by simp));replace hE:=((((hE.fv tO).af jV).af MC).af MD);clear hA hD tO vU jV vV MC vW MD vX;try simp only[aT,Act.put,List.setIfInBounds_toArray,List.set_cons_zero,List.set_cons_succ,List.getElem_toArray,List.getElem_cons_succ,List.getElem_cons_zero]
 have hHeld:(fun V=>ak 125 (gw) (tM x t gA gD b0 b1 j) V) W7:=hE.au.1.1.1.2;refine r1 14 (fun K hK=> ?_)
 have ry:w.heap.size<=iD:=by omega
 obtain⟨BC,BD,BF,BG⟩:=(hE.h2).c4;obtain⟨BH,BI,BJ,BK⟩:=hE.h2.f4;replace hE:=(((((((((((((((((((((Env.again (ck hE.av ry (.bool b0.i.s) (.slice b0.i.A b0.i.n b0.i.c) (.bool b0.i.t) (.slice b0.i.B b0.i.m b0.i.d))).af ((hE.au.1.1.1.2).ai (by omega) _ _ _ _)).fv ((hE.au.1.1.2).aq hE.h2 rfl _ _ _ _ rfl rfl rfl)).fv ((hE.au.1.2).aq hE.h2 rfl _ _ _ _ rfl rfl rfl)).af ((hE.au.2).ai (by omega) _ _ _ _)).fv ((hE.e8.1.1.1.1.1.1.1.2).aq hE.h2 rfl _ _ _ _ rfl rfl rfl)).af ((hE.e8.1.1.1.1.1.1.2).ai (by omega) _ _ _ _)).fv ((hE.bZ).aq hE.h2 rfl _ _ _ _ rfl rfl rfl)).fv ((hE.h12).aq hE.h2 rfl _ _ _ _ rfl rfl rfl)).af ((hE.h11).ai (by omega) _ _ _ _)).af ((hE.h10).ai (by omega) _ _ _ _)).af ((hE.h9).ai (by omega) _ _ _ _)).fv ((hE.h8).aq hE.h2 rfl _ _ _ _ rfl rfl rfl)).fv ((hE.h7).aq hE.h2 rfl _ _ _ _ rfl rfl rfl)).fv ((hE.h6).aq hE.h2 rfl _ _ _ _ rfl rfl rfl)).af ((hE.h5).ai (by omega) _ _ _ _)).af ((hE.h4).ai (by omega) _ _ _ _)).fv ((hE.h3).aq hE.h2 rfl _ _ _ _ rfl rfl rfl)).af ((hE.h2).s4 _ _ _ _)).af ((hE.here.1.2).ai (by omega) _ _ _ _)).af ((hE.here.2).ai (by omega) _ _ _ _));go_simp;clear BC BD BF BG BH BI BJ BK ry;generalize ((((W7.setCell ⟨iD,0,none⟩ (.bool b0.i.s)).setCell ⟨iD,1,none⟩ (.slice b0.i.A b0.i.n b0.i.c)).setCell ⟨iD,2,none⟩ (.bool b0.i.t)).setCell ⟨iD,3,none⟩ (.slice b0.i.B b0.i.m b0.i.d))=W13 at hE⊢;refine hK.out _ _ (hE.au.1.1.1.2) (fun hHeld=> ?_);clear hK K;try simp only[PL]
 refine r1 15 (fun K hK=> ?_)
 have BL:w.heap.size<=jr:=by omega
 obtain⟨ME,MF,aeK,aeL⟩:=(hE.here.1.2).c4;obtain⟨MG,MH,aeM,aeN⟩:=hE.here.1.2.f4;replace hE:=(((((((((((((((((((((Env.again (ck hE.av BL (.bool j.s) (.slice j.A j.n j.c) (.bool j.t) (.slice j.B j.m j.d))).af ((hE.au.1.1.1.2).ai (by omega) _ _ _ _)).fv ((hE.au.1.1.2).aq hE.here.1.2 rfl _ _ _ _ rfl rfl rfl)).fv ((hE.au.1.2).aq hE.here.1.2 rfl _ _ _ _ rfl rfl rfl)).af ((hE.au.2).ai (by omega) _ _ _ _)).fv ((hE.e8.1.1.1.1.1.1.1.2).aq hE.here.1.2 rfl _ _ _ _ rfl rfl rfl)).af ((hE.e8.1.1.1.1.1.1.2).ai (by omega) _ _ _ _)).fv ((hE.bZ).aq hE.here.1.2 rfl _ _ _ _ rfl rfl rfl)).fv ((hE.h12).aq hE.here.1.2 rfl _ _ _ _ rfl rfl rfl)).af ((hE.h11).ai (by omega) _ _ _ _)).af ((hE.h10).ai (by omega) _ _ _ _)).af ((hE.h9).ai (by omega) _ _ _ _)).fv ((hE.h8).aq hE.here.1.2 rfl _ _ _ _ rfl rfl rfl)).fv ((hE.h7).aq hE.here.1.2 rfl _ _ _ _ rfl rfl rfl)).fv ((hE.h6).aq hE.here.1.2 rfl _ _ _ _ rfl rfl rfl)).af ((hE.h5).ai (by omega) _ _ _ _)).af ((hE.h4).ai (by omega) _ _ _ _)).fv ((hE.h3).aq hE.here.1.2 rfl _ _ _ _ rfl rfl rfl)).af ((hE.h2).ai (by omega) _ _ _ _)).af ((hE.here.1.2).s4 _ _ _ _)).af ((hE.here.2).ai (by omega) _ _ _ _));go_simp;clear ME MF aeK aeL MG MH aeM aeN BL;generalize ((((W13.setCell ⟨jr,0,none⟩ (.bool j.s)).setCell ⟨jr,1,none⟩ (.slice j.A j.n j.c)).setCell ⟨jr,2,none⟩ (.bool j.t)).setCell ⟨jr,3,none⟩ (.slice j.B j.m j.d))=XK at hE⊢;refine hK.out _ _ (hE.au.1.1.1.2) (fun hHeld=> ?_);clear hK K;try simp only[PL]
 refine r1 16 (fun K hK=> ?_)
 have rz:w.heap.size<=js:=by omega
 obtain⟨BM,BN,MI,MJ⟩:=(hE.here.2).c4;obtain⟨BO,BP,MK,ML⟩:=hE.here.2.f4;replace hE:=(((((((((((((((((((((Env.again (ck hE.av rz (.bool sq) (.slice Aq nq cq) (.bool tq) (.slice Bq mq dq))).af ((hE.au.1.1.1.2).ai (by omega) _ _ _ _)).fv ((hE.au.1.1.2).aq hE.here.2 rfl _ _ _ _ rfl rfl rfl)).fv ((hE.au.1.2).aq hE.here.2 rfl _ _ _ _ rfl rfl rfl)).af ((hE.au.2).ai (by omega) _ _ _ _)).fv ((hE.e8.1.1.1.1.1.1.1.2).aq hE.here.2 rfl _ _ _ _ rfl rfl rfl)).af ((hE.e8.1.1.1.1.1.1.2).ai (by omega) _ _ _ _)).fv ((hE.bZ).aq hE.here.2 rfl _ _ _ _ rfl rfl rfl)).fv ((hE.h12).aq hE.here.2 rfl _ _ _ _ rfl rfl rfl)).af ((hE.h11).ai (by omega) _ _ _ _)).af ((hE.h10).ai (by omega) _ _ _ _)).af ((hE.h9).ai (by omega) _ _ _ _)).fv ((hE.h8).aq hE.here.2 rfl _ _ _ _ rfl rfl rfl)).fv ((hE.h7).aq hE.here.2 rfl _ _ _ _ rfl rfl rfl)).fv ((hE.h6).aq hE.here.2 rfl _ _ _ _ rfl rfl rfl)).af ((hE.h5).ai (by omega) _ _ _ _)).af ((hE.h4).ai (by omega) _ _ _ _)).fv ((hE.h3).aq hE.here.2 rfl _ _ _ _ rfl rfl rfl)).af ((hE.h2).ai (by omega) _ _ _ _)).af ((hE.here.1.2).ai (by omega) _ _ _ _)).af ((hE.here.2).s4 _ _ _ _));go_simp;clear BM BN MI MJ BO BP MK ML rz;generalize ((((XK.setCell ⟨js,0,none⟩ (.bool sq)).setCell ⟨js,1,none⟩ (.slice Aq nq cq)).setCell ⟨js,2,none⟩ (.bool tq)).setCell ⟨js,3,none⟩ (.slice Bq mq dq))=W15 at hE⊢;refine hK.out _ _ (hE.au.1.1.1.2) (fun hHeld=> ?_);clear hK K;try simp only[PL]
 refine wpAnyH_done (by kernel_rfl) ?_ _
 go_upto_region 8 with(fail)
 clear hw7 aeF aeG aeH aeI aeJ Zx Zy Zz ZB ZC ZD I7 I8 I9
 go_cut [12,13,14] from 72 to 131 (fun p0 p1 p2 wx=>∃fJ gM gO sn An nn cn tn Bn mn dn sm Am nm cm tm Bm mm dm sr Ar nr cr tr Br mr dr,p0= .pointer (some ⟨fJ,0,none⟩)/\p1= .pointer (some ⟨gM,0,none⟩)/\p2= .pointer (some ⟨gO,0,none⟩)/\Env w (fun V=>((((((((((((((((((((((((((True/\ak 125 (gw) (tM x t gA gD b0 b1 j) V)/\FV V qi b0.i.s b0.i.A b0.i.n b0.i.t b0.i.B b0.i.m)/\FV V qj j.s j.A j.n j.t j.B j.m)/\ak 126 (w.heap.size) #[.bool false,.slice none 0 0,.bool false,.slice none 0 0,.bool false,.slice none 0 0,.bool false,.slice none 0 0,.bool false,.slice none 0 0,.bool false,.slice none 0 0,.bool false,.slice none 0 0,.bool false,.slice none 0 0,.bool false,.slice none 0 0,.bool false,.slice none 0 0,.bool false,.slice none 0 0,.bool false,.slice none 0 0,.bool false,.slice none 0 0,.bool false,.slice none 0 0,.bool false,.slice none 0 0,.bool false,.slice none 0 0,.bool false,.slice none 0 0,.bool false,.slice none 0 0,.bool false,.slice none 0 0,.bool false,.slice none 0 0] V)/\FV V qv sv Av nv tv Bv mv)/\ak 29 (eT) (az sv Av nv cv tv Bv mv dv) V)/\FV V qa sa Aa na ta Ba ma)/\FV V qu su Au nu tu Bu mu)/\ak 29 (gh) (az sa Aa na ca ta Ba ma da) V)/\ak 29 (gj) (az su Au nu cu tu Bu mu du) V)/\ak 29 (g5) (az sp Ap np cp tp Bp mp dp) V)/\FV V qp sp Ap np tp Bp mp)/\FV V ql sl Al nl tl Bl ml)/\FV V qd sd Ad nd td Bd md)/\ak 29 (gL) (az sl Al nl cl tl Bl ml dl) V)/\ak 29 (jd) (az sd Ad nd cd td Bd md dd) V)/\FV V qq sq Aq nq tq Bq mq)/\ak 29 (iD) (az b0.i.s b0.i.A b0.i.n b0.i.c b0.i.t b0.i.B b0.i.m b0.i.d) V)/\ak 29 (jr) (az j.s j.A j.n j.c j.t j.B j.m j.d) V)/\ak 29 (js) (az sq Aq nq cq tq Bq mq dq) V)/\FV V qn sn An nn tn Bn mn)/\FV V qm sm Am nm tm Bm mm)/\FV V (qn-qm) sr Ar nr tr Br mr)/\ak 29 (fJ) (az sn An nn cn tn Bn mn dn) V)/\ak 29 (gM) (az sm Am nm cm tm Bm mm dm) V)/\ak 29 (gO) (az sr Ar nr cr tr Br mr dr) V)) wx)
 case first=>
  replace hE:=hE.drew;refine wp_region_held_drew (S:=fun V=>ak 125 (gw) (tM x t gA gD b0 b1 j) V) (by kernel_rfl) (hE.au.1.1.1.2) (fun hHeld=> ?_)
  generalize W15.drew=wd at*
  refine tk 0 ?_;refine tk 1 ?_;refine tk 2 ?_;refine tk 3 ?_
  refine tk 4 ?_ (hy:=by
   intro w ay;have MN:=(ay).cell 11;clear ay
   first|(go_simp;done)|(go_simp;with_reducible rfl))
  try simp only[PL]
  refine tk 6 ?_;refine tk 7 ?_;refine tk 8 ?_;refine tk 9 ?_
  refine tk 10 ?_ (hy:=by
   intro w ay;have SZ:=(ay).cell 12;clear ay
   first|(go_simp;done)|(go_simp;with_reducible rfl))
  try simp only[PL]
  refine tk 12 ?_;refine tk 13 ?_;refine tk 14 ?_;refine tk 15 ?_
  refine tk 16 ?_ (hy:=by
   intro w ay;have MN:=(ay).cell 11;clear ay
   first|(go_simp;done)|(go_simp;with_reducible rfl))
  try simp only[PL]
  refine tk 17 ?_;refine tk 18 ?_;refine tk 19 ?_;refine tk 20 ?_
  refine tk 21 ?_ (hy:=by
   intro w ay;have SZ:=(ay).cell 12;clear ay
   first|(go_simp;done)|(go_simp;with_reducible rfl))
  try simp only[PL]
  refine tk 22 ?_
  obtain⟨B8,Ev⟩:∃B,B=wd.heap.size:=⟨_,rfl⟩
  have hw8:w.heap.size<=B8:=by rw[Ev];exact hE.av.size
  have aoL:gw<B8:=by rw[Ev];exact(hE.au.1.1.1.2).lt
  have aeO:w.heap.size<B8:=by rw[Ev];exact(hE.au.2).lt
  have aoM:eT<B8:=by rw[Ev];exact(hE.e8.1.1.1.1.1.1.2).lt
  have aoN:gh<B8:=by rw[Ev];exact(hE.h11).lt
  have aoO:gj<B8:=by rw[Ev];exact(hE.h10).lt
  have als:g5<B8:=by rw[Ev];exact(hE.h9).lt
  have alu:gL<B8:=by rw[Ev];exact(hE.h5).lt
  have alv:jd<B8:=by rw[Ev];exact(hE.h4).lt
  have alw:iD<B8:=by rw[Ev];exact(hE.h2).lt
  have alx:jr<B8:=by rw[Ev];exact(hE.here.1.2).lt
  have aly:js<B8:=by rw[Ev];exact(hE.here.2).lt
  refine dP (I:=cN w _ _ B8 [⟨5,112,eH qn⟩,⟨11,118,eH qm⟩,⟨23,130,eH (qn-qm)⟩,⟨24,12,jv 29 aY B8⟩,⟨25,13,jv 29 aY B8⟩,⟨26,14,jv 29 aY B8⟩]) [5,11,23,24,25,26] (f1:=3) (by kernel_rfl) (by kernel_rfl) (by kernel_rfl) rfl (by kernel_rfl) (by kernel_rfl) (by rfl) (cN.start hE Ev (by kernel_rfl)) ?ZE ?aqr
  case ZE=>
   have hst:∀g∈([⟨5,112,eH qn⟩,⟨11,118,eH qm⟩,⟨23,130,eH (qn-qm)⟩,⟨24,12,jv 29 aY B8⟩,⟨25,13,jv 29 aY B8⟩,⟨26,14,jv 29 aY B8⟩]:List bz),∀x,bq (g.R x):=(fun g hg=>by simp only[List.mem_cons,List.not_mem_nil,or_false] at hg;rcases hg with rfl|rfl|rfl|rfl|rfl|rfl<;>first|exact eH.stable _|exact jv.stable _ _ _|exact Kv.stable _|exact Kw.stable _)
   clear hE hHeld Ev;refine aH.cons (ds:=[4]) rfl (by kernel_rfl) (fun D a W0 hI hD K hK=> ?_) ?_
   ·
    have hE:=hI.here;obtain⟨xs,rfl,-,hF,-,-⟩:=id hI;obtain⟨Ja,xs,rfl,BQ,hF⟩:=hF.ag;obtain⟨vY,xs,rfl,rA,hF⟩:=hF.ag;obtain⟨vZ,xs,rfl,rB,hF⟩:=hF.ag;obtain⟨wh,xs,rfl,rC,hF⟩:=hF.ag;obtain⟨wj,xs,rfl,rD,hF⟩:=hF.ag;obtain⟨wk,xs,rfl,rE,hF⟩:=hF.ag;obtain rfl:=hF.nil;clear hF;try simp only[aT,Act.put,List.setIfInBounds_toArray,List.set_cons_zero,List.set_cons_succ,List.getElem_toArray,List.getElem_cons_succ,List.getElem_cons_zero]
    go_simp;refine(ff ad6.out (aR gA _ (by omega) (by omega))).mono ?_
    rintro e W1 ⟨sn,An,nn,cn,tn,Bn,mn,dn,rfl,hv,hb⟩
    have bG:=hE.step hb;go_wp2_with fail
    refine hK.out _ _ (bG.au.1.1.1.2) ?_;exact hI.call (c:=cn) (d:=dn) 0 hst rfl (by kernel_rfl) (by kernel_rfl) (by kernel_rfl) hb hv
   refine aH.cons (ds:=[10,5]) rfl (by kernel_rfl) (fun D a W0 hI hD K hK=> ?_) ?_
   ·
    have hE:=hI.here;obtain⟨xs,rfl,-,hF,-,-⟩:=id hI;obtain⟨Ja,xs,rfl,BQ,hF⟩:=hF.ag;obtain⟨vY,xs,rfl,rA,hF⟩:=hF.ag;obtain⟨vZ,xs,rfl,rB,hF⟩:=hF.ag;obtain⟨wh,xs,rfl,rC,hF⟩:=hF.ag;obtain⟨wj,xs,rfl,rD,hF⟩:=hF.ag;obtain⟨wk,xs,rfl,rE,hF⟩:=hF.ag;obtain rfl:=hF.nil;clear hF;try simp only[aT,Act.put,List.setIfInBounds_toArray,List.set_cons_zero,List.set_cons_succ,List.getElem_toArray,List.getElem_cons_succ,List.getElem_cons_zero]
    go_simp;refine(ff ad7.out (aR gD _ (by omega) (by omega))).mono ?_
    rintro e W1 ⟨sm,Am,nm,cm,tm,Bm,mm,dm,rfl,hv,hb⟩
    have bG:=hE.step hb;go_wp2_with fail
    refine hK.out _ _ (bG.au.1.1.1.2) ?_;exact hI.call (c:=cm) (d:=dm) 1 hst rfl (by kernel_rfl) (by kernel_rfl) (by kernel_rfl) hb hv
   refine aH.cons (ds:=[22,11]) rfl (by kernel_rfl) (fun D a W0 hI hD K hK=> ?_) ?_
   ·
    have hE:=hI.here;obtain⟨xs,rfl,-,hF,-,-⟩:=id hI;obtain⟨Ja,xs,rfl,BQ,hF⟩:=hF.ag;obtain⟨vY,xs,rfl,rA,hF⟩:=hF.ag;obtain⟨vZ,xs,rfl,rB,hF⟩:=hF.ag;obtain⟨wh,xs,rfl,rC,hF⟩:=hF.ag;obtain⟨wj,xs,rfl,rD,hF⟩:=hF.ag;obtain⟨wk,xs,rfl,rE,hF⟩:=hF.ag;obtain rfl:=hF.nil;clear hF;try simp only[aT,Act.put,List.setIfInBounds_toArray,List.set_cons_zero,List.set_cons_succ,List.getElem_toArray,List.getElem_cons_succ,List.getElem_cons_zero]
    go_simp;refine(ff Mz.out (aR (gA-gD) _ (by omega) (by omega))).mono ?_
    rintro e W1 ⟨sr,Ar,nr,cr,tr,Br,mr,dr,rfl,hv,hb⟩
    have bG:=hE.step hb;go_wp2_with fail
    refine hK.out _ _ (bG.au.1.1.1.2) ?_;exact hI.call (c:=cr) (d:=dr) 2 hst rfl (by kernel_rfl) (by kernel_rfl) (by kernel_rfl) hb hv
   refine aH.cons (ds:=[]) rfl (by kernel_rfl) (fun D a W0 hI hD K hK=> ?_) ?_
   ·
    have hE:=hI.here;obtain⟨xs,rfl,-,hF,-,-⟩:=id hI;obtain⟨Ja,xs,rfl,BQ,hF⟩:=hF.ag;obtain⟨vY,xs,rfl,rA,hF⟩:=hF.ag;obtain⟨vZ,xs,rfl,rB,hF⟩:=hF.ag;obtain⟨wh,xs,rfl,rC,hF⟩:=hF.ag;obtain⟨wj,xs,rfl,rD,hF⟩:=hF.ag;obtain⟨wk,xs,rfl,rE,hF⟩:=hF.ag;obtain rfl:=hF.nil;clear hF;try simp only[aT,Act.put,List.setIfInBounds_toArray,List.set_cons_zero,List.set_cons_succ,List.getElem_toArray,List.getElem_cons_succ,List.getElem_cons_zero]
    go_simp;have bG:=hE.alloc (.cells aY 29);refine hK.out _ _ (bG.au.1.1.1.2) ?_;exact hI.alloc 3 hst rfl (by kernel_rfl) (by kernel_rfl) (by kernel_rfl)
   refine aH.cons (ds:=[]) rfl (by kernel_rfl) (fun D a W0 hI hD K hK=> ?_) ?_
   ·
    have hE:=hI.here;obtain⟨xs,rfl,-,hF,-,-⟩:=id hI;obtain⟨Ja,xs,rfl,BQ,hF⟩:=hF.ag;obtain⟨vY,xs,rfl,rA,hF⟩:=hF.ag;obtain⟨vZ,xs,rfl,rB,hF⟩:=hF.ag;obtain⟨wh,xs,rfl,rC,hF⟩:=hF.ag;obtain⟨wj,xs,rfl,rD,hF⟩:=hF.ag;obtain⟨wk,xs,rfl,rE,hF⟩:=hF.ag;obtain rfl:=hF.nil;clear hF;try simp only[aT,Act.put,List.setIfInBounds_toArray,List.set_cons_zero,List.set_cons_succ,List.getElem_toArray,List.getElem_cons_succ,List.getElem_cons_zero]
    go_simp;have bG:=hE.alloc (.cells aY 29);refine hK.out _ _ (bG.au.1.1.1.2) ?_;exact hI.alloc 4 hst rfl (by kernel_rfl) (by kernel_rfl) (by kernel_rfl)
   refine aH.cons (ds:=[]) rfl (by kernel_rfl) (fun D a W0 hI hD K hK=> ?_) ?_
   ·
    have hE:=hI.here;obtain⟨xs,rfl,-,hF,-,-⟩:=id hI;obtain⟨Ja,xs,rfl,BQ,hF⟩:=hF.ag;obtain⟨vY,xs,rfl,rA,hF⟩:=hF.ag;obtain⟨vZ,xs,rfl,rB,hF⟩:=hF.ag;obtain⟨wh,xs,rfl,rC,hF⟩:=hF.ag;obtain⟨wj,xs,rfl,rD,hF⟩:=hF.ag;obtain⟨wk,xs,rfl,rE,hF⟩:=hF.ag;obtain rfl:=hF.nil;clear hF;try simp only[aT,Act.put,List.setIfInBounds_toArray,List.set_cons_zero,List.set_cons_succ,List.getElem_toArray,List.getElem_cons_succ,List.getElem_cons_zero]
    go_simp;have bG:=hE.alloc (.cells aY 29);refine hK.out _ _ (bG.au.1.1.1.2) ?_;exact hI.alloc 5 hst rfl (by kernel_rfl) (by kernel_rfl) (by kernel_rfl)
   exact aH.nil
  clear hE hHeld Ev;intro D a W8 hI hD;have hE:=hI.here;obtain⟨xs,rfl,-,hF,hA,-⟩:=id hI;clear hI;obtain⟨Ja,xs,rfl,BQ,hF⟩:=hF.ag;obtain⟨vY,xs,rfl,rA,hF⟩:=hF.ag;obtain⟨vZ,xs,rfl,rB,hF⟩:=hF.ag;obtain⟨wh,xs,rfl,rC,hF⟩:=hF.ag;obtain⟨wj,xs,rfl,rD,hF⟩:=hF.ag;obtain⟨wk,xs,rfl,rE,hF⟩:=hF.ag;obtain rfl:=hF.nil;clear hF;obtain⟨sn,An,nn,cn,tn,Bn,mn,dn,rfl,hq5⟩:=BQ (hD 5 (by simp));obtain⟨sm,Am,nm,cm,tm,Bm,mm,dm,rfl,jV⟩:=rA (hD 11 (by simp));obtain⟨sr,Ar,nr,cr,tr,Br,mr,dr,rfl,AV⟩:=rB (hD 23 (by simp));obtain⟨fJ,rfl,alz,AW⟩:=rC (hD 24 (by simp));obtain⟨gM,rfl,alA,AX⟩:=rD (hD 25 (by simp));obtain⟨gO,rfl,alB,aeP⟩:=rE (hD 26 (by simp));have abK:=hA.ne 3 4 (by decide) rfl rfl rfl rfl (hD 24 (by simp)) (hD 25 (by simp));have abL:=hA.ne 3 5 (by decide) rfl rfl rfl rfl (hD 24 (by simp)) (hD 26 (by simp));have abM:=hA.ne 4 5 (by decide) rfl rfl rfl rfl (hD 25 (by simp)) (hD 26 (by simp));replace hE:=((((((hE.fv hq5).fv jV).fv AV).af AW).af AX).af aeP);clear hA hD hq5 BQ jV rA AV rB AW rC AX rD aeP rE;try simp only[aT,Act.put,List.setIfInBounds_toArray,List.set_cons_zero,List.set_cons_succ,List.getElem_toArray,List.getElem_cons_succ,List.getElem_cons_zero]
  have hHeld:(fun V=>ak 125 (gw) (tM x t gA gD b0 b1 j) V) W8:=hE.cV.1.2;refine r1 27 (fun K hK=> ?_)
  have BR:w.heap.size<=fJ:=by omega
  obtain⟨MO,MP,aeQ,aeR⟩:=(hE.h2).c4;obtain⟨MQ,MR,aeS,aeT⟩:=hE.h2.f4;replace hE:=(((((((((((((((((((((((((((Env.again (ck hE.av BR (.bool sn) (.slice An nn cn) (.bool tn) (.slice Bn mn dn))).af ((hE.cV.1.2).ai (by omega) _ _ _ _)).fv ((hE.cV.2).aq hE.h2 rfl _ _ _ _ rfl rfl rfl)).fv ((hE.au.1.1.1.1.1.1.1.2).aq hE.h2 rfl _ _ _ _ rfl rfl rfl)).af ((hE.au.1.1.1.1.1.1.2).ai (by omega) _ _ _ _)).fv ((hE.au.1.1.1.1.1.2).aq hE.h2 rfl _ _ _ _ rfl rfl rfl)).af ((hE.au.1.1.1.1.2).ai (by omega) _ _ _ _)).fv ((hE.au.1.1.1.2).aq hE.h2 rfl _ _ _ _ rfl rfl rfl)).fv ((hE.au.1.1.2).aq hE.h2 rfl _ _ _ _ rfl rfl rfl)).af ((hE.au.1.2).ai (by omega) _ _ _ _)).af ((hE.au.2).ai (by omega) _ _ _ _)).af ((hE.e8.1.1.1.1.1.1.1.2).ai (by omega) _ _ _ _)).fv ((hE.e8.1.1.1.1.1.1.2).aq hE.h2 rfl _ _ _ _ rfl rfl rfl)).fv ((hE.bZ).aq hE.h2 rfl _ _ _ _ rfl rfl rfl)).fv ((hE.h12).aq hE.h2 rfl _ _ _ _ rfl rfl rfl)).af ((hE.h11).ai (by omega) _ _ _ _)).af ((hE.h10).ai (by omega) _ _ _ _)).fv ((hE.h9).aq hE.h2 rfl _ _ _ _ rfl rfl rfl)).af ((hE.h8).ai (by omega) _ _ _ _)).af ((hE.h7).ai (by omega) _ _ _ _)).af ((hE.h6).ai (by omega) _ _ _ _)).fv ((hE.h5).aq hE.h2 rfl _ _ _ _ rfl rfl rfl)).fv ((hE.h4).aq hE.h2 rfl _ _ _ _ rfl rfl rfl)).fv ((hE.h3).aq hE.h2 rfl _ _ _ _ rfl rfl rfl)).af ((hE.h2).s4 _ _ _ _)).af ((hE.here.1.2).ai (by omega) _ _ _ _)).af ((hE.here.2).ai (by omega) _ _ _ _));go_simp;clear MO MP aeQ aeR MQ MR aeS aeT BR;generalize ((((W8.setCell ⟨fJ,0,none⟩ (.bool sn)).setCell ⟨fJ,1,none⟩ (.slice An nn cn)).setCell ⟨fJ,2,none⟩ (.bool tn)).setCell ⟨fJ,3,none⟩ (.slice Bn mn dn))=W16 at hE⊢;refine hK.out _ _ (hE.cV.1.2) (fun hHeld=> ?_);clear hK K;try simp only[PL]
  refine r1 28 (fun K hK=> ?_)
  have rF:w.heap.size<=gM:=by omega
  obtain⟨BS,je,BU,jf⟩:=(hE.here.1.2).c4;obtain⟨BV,BW,BX,BZ⟩:=hE.here.1.2.f4;replace hE:=(((((((((((((((((((((((((((Env.again (ck hE.av rF (.bool sm) (.slice Am nm cm) (.bool tm) (.slice Bm mm dm))).af ((hE.cV.1.2).ai (by omega) _ _ _ _)).fv ((hE.cV.2).aq hE.here.1.2 rfl _ _ _ _ rfl rfl rfl)).fv ((hE.au.1.1.1.1.1.1.1.2).aq hE.here.1.2 rfl _ _ _ _ rfl rfl rfl)).af ((hE.au.1.1.1.1.1.1.2).ai (by omega) _ _ _ _)).fv ((hE.au.1.1.1.1.1.2).aq hE.here.1.2 rfl _ _ _ _ rfl rfl rfl)).af ((hE.au.1.1.1.1.2).ai (by omega) _ _ _ _)).fv ((hE.au.1.1.1.2).aq hE.here.1.2 rfl _ _ _ _ rfl rfl rfl)).fv ((hE.au.1.1.2).aq hE.here.1.2 rfl _ _ _ _ rfl rfl rfl)).af ((hE.au.1.2).ai (by omega) _ _ _ _)).af ((hE.au.2).ai (by omega) _ _ _ _)).af ((hE.e8.1.1.1.1.1.1.1.2).ai (by omega) _ _ _ _)).fv ((hE.e8.1.1.1.1.1.1.2).aq hE.here.1.2 rfl _ _ _ _ rfl rfl rfl)).fv ((hE.bZ).aq hE.here.1.2 rfl _ _ _ _ rfl rfl rfl)).fv ((hE.h12).aq hE.here.1.2 rfl _ _ _ _ rfl rfl rfl)).af ((hE.h11).ai (by omega) _ _ _ _)).af ((hE.h10).ai (by omega) _ _ _ _)).fv ((hE.h9).aq hE.here.1.2 rfl _ _ _ _ rfl rfl rfl)).af ((hE.h8).ai (by omega) _ _ _ _)).af ((hE.h7).ai (by omega) _ _ _ _)).af ((hE.h6).ai (by omega) _ _ _ _)).fv ((hE.h5).aq hE.here.1.2 rfl _ _ _ _ rfl rfl rfl)).fv ((hE.h4).aq hE.here.1.2 rfl _ _ _ _ rfl rfl rfl)).fv ((hE.h3).aq hE.here.1.2 rfl _ _ _ _ rfl rfl rfl)).af ((hE.h2).ai (by omega) _ _ _ _)).af ((hE.here.1.2).s4 _ _ _ _)).af ((hE.here.2).ai (by omega) _ _ _ _));go_simp;clear BS je BU jf BV BW BX BZ rF;generalize ((((W16.setCell ⟨gM,0,none⟩ (.bool sm)).setCell ⟨gM,1,none⟩ (.slice Am nm cm)).setCell ⟨gM,2,none⟩ (.bool tm)).setCell ⟨gM,3,none⟩ (.slice Bm mm dm))=Wu at hE⊢;refine hK.out _ _ (hE.cV.1.2) (fun hHeld=> ?_);clear hK K;try simp only[PL]
  refine r1 29 (fun K hK=> ?_)
  have Ca:w.heap.size<=gO:=by omega
  obtain⟨MS,MT,MU,MV⟩:=(hE.here.2).c4;obtain⟨MW,MX,MY,MZ⟩:=hE.here.2.f4;replace hE:=(((((((((((((((((((((((((((Env.again (ck hE.av Ca (.bool sr) (.slice Ar nr cr) (.bool tr) (.slice Br mr dr))).af ((hE.cV.1.2).ai (by omega) _ _ _ _)).fv ((hE.cV.2).aq hE.here.2 rfl _ _ _ _ rfl rfl rfl)).fv ((hE.au.1.1.1.1.1.1.1.2).aq hE.here.2 rfl _ _ _ _ rfl rfl rfl)).af ((hE.au.1.1.1.1.1.1.2).ai (by omega) _ _ _ _)).fv ((hE.au.1.1.1.1.1.2).aq hE.here.2 rfl _ _ _ _ rfl rfl rfl)).af ((hE.au.1.1.1.1.2).ai (by omega) _ _ _ _)).fv ((hE.au.1.1.1.2).aq hE.here.2 rfl _ _ _ _ rfl rfl rfl)).fv ((hE.au.1.1.2).aq hE.here.2 rfl _ _ _ _ rfl rfl rfl)).af ((hE.au.1.2).ai (by omega) _ _ _ _)).af ((hE.au.2).ai (by omega) _ _ _ _)).af ((hE.e8.1.1.1.1.1.1.1.2).ai (by omega) _ _ _ _)).fv ((hE.e8.1.1.1.1.1.1.2).aq hE.here.2 rfl _ _ _ _ rfl rfl rfl)).fv ((hE.bZ).aq hE.here.2 rfl _ _ _ _ rfl rfl rfl)).fv ((hE.h12).aq hE.here.2 rfl _ _ _ _ rfl rfl rfl)).af ((hE.h11).ai (by omega) _ _ _ _)).af ((hE.h10).ai (by omega) _ _ _ _)).fv ((hE.h9).aq hE.here.2 rfl _ _ _ _ rfl rfl rfl)).af ((hE.h8).ai (by omega) _ _ _ _)).af ((hE.h7).ai (by omega) _ _ _ _)).af ((hE.h6).ai (by omega) _ _ _ _)).fv ((hE.h5).aq hE.here.2 rfl _ _ _ _ rfl rfl rfl)).fv ((hE.h4).aq hE.here.2 rfl _ _ _ _ rfl rfl rfl)).fv ((hE.h3).aq hE.here.2 rfl _ _ _ _ rfl rfl rfl)).af ((hE.h2).ai (by omega) _ _ _ _)).af ((hE.here.1.2).ai (by omega) _ _ _ _)).af ((hE.here.2).s4 _ _ _ _));go_simp;clear MS MT MU MV MW MX MY MZ Ca;generalize ((((Wu.setCell ⟨gO,0,none⟩ (.bool sr)).setCell ⟨gO,1,none⟩ (.slice Ar nr cr)).setCell ⟨gO,2,none⟩ (.bool tr)).setCell ⟨gO,3,none⟩ (.slice Br mr dr))=W18 at hE⊢;refine hK.out _ _ (hE.cV.1.2) (fun hHeld=> ?_);clear hK K;try simp only[PL]
  refine wpAnyH_done (by kernel_rfl) ?_ _;go_wp2_with fail
  go_meet
  exact⟨fJ,gM,gO,sn,An,nn,cn,tn,Bn,mn,dn,sm,Am,nm,cm,tm,Bm,mm,dm,sr,Ar,nr,cr,tr,Br,mr,dr,rfl,rfl,rfl,(((((((((((((((((((((((((((Env.again hE.av).af (hE.cV.1.2)).fv (hE.cV.2)).fv (hE.au.1.1.1.1.1.1.1.2)).af (hE.au.1.1.1.1.1.1.2)).fv (hE.au.1.1.1.1.1.2)).af (hE.au.1.1.1.1.2)).fv (hE.au.1.1.1.2)).fv (hE.au.1.1.2)).af (hE.au.1.2)).af (hE.au.2)).af (hE.e8.1.1.1.1.1.1.1.2)).fv (hE.e8.1.1.1.1.1.1.2)).fv (hE.bZ)).fv (hE.h12)).af (hE.h11)).af (hE.h10)).fv (hE.h9)).af (hE.h8)).af (hE.h7)).af (hE.h6)).fv (hE.h5)).fv (hE.h4)).fv (hE.h3)).af (hE.h2)).af (hE.here.1.2)).af (hE.here.2))⟩
 case rest=>
 clear hE;obtain⟨fJ,gM,gO,sn,An,nn,cn,tn,Bn,mn,dn,sm,Am,nm,cm,tm,Bm,mm,dm,sr,Ar,nr,cr,tr,Br,mr,dr,rfl,rfl,rfl,hE⟩:=hcut;generalize wc=wk8 at hE⊢
 go_upto_region 9 with(fail)
 replace hE:=hE.drew;refine wp_region_held_drew (S:=fun V=>ak 125 (gw) (tM x t gA gD b0 b1 j) V/\ak 29 (eT) (az sv Av nv cv tv Bv mv dv) V/\ak 29 (g5) (az sp Ap np cp tp Bp mp dp) V/\ak 29 (gL) (az sl Al nl cl tl Bl ml dl) V) (by kernel_rfl) (⟨hE.cV.1.2,hE.au.1.1.1.1.2,hE.e8.1.1.1.1.1.1.1.2,hE.h11⟩) (fun hHeld=> ?_)
 generalize wk8.drew=wd at*
 refine tk 0 ?_;refine tk 1 ?_;refine tk 2 ?_;refine tk 3 ?_;refine tk 4 ?_;refine tk 5 ?_
 refine tk 6 ?_ (hy:=by
  intro w ay;have iM:=(ay.2.1).cell 0;have iP:=(ay.2.1).cell 1;have jb:=(ay.2.1).cell 2;have jc:=(ay.2.1).cell 3;clear ay
  first|(go_simp;done)|(go_simp;with_reducible rfl))
 try simp only[PL]
 refine tk 7 ?_ (hy:=by
  intro w ay;have iM:=(ay.2.2.1).cell 0;have iP:=(ay.2.2.1).cell 1;have jb:=(ay.2.2.1).cell 2;have jc:=(ay.2.2.1).cell 3;clear ay
  first|(go_simp;done)|(go_simp;with_reducible rfl))
 try simp only[PL]
 refine tk 9 ?_ (hy:=by
  intro w ay;have iM:=(ay.2.2.2).cell 0;have iP:=(ay.2.2.2).cell 1;have jb:=(ay.2.2.2).cell 2;have jc:=(ay.2.2.2).cell 3;clear ay
  first|(go_simp;done)|(go_simp;with_reducible rfl))
 try simp only[PL]
 obtain⟨B9,jS⟩:∃B,B=wd.heap.size:=⟨_,rfl⟩
 have hw9:w.heap.size<=B9:=by rw[jS];exact hE.av.size
 have M0:gw<B9:=by rw[jS];exact(hE.cV.1.2).lt
 have Wv:w.heap.size<B9:=by rw[jS];exact(hE.au.1.1.1.1.1.1.2).lt
 have aeU:eT<B9:=by rw[jS];exact(hE.au.1.1.1.1.2).lt
 have aeV:gh<B9:=by rw[jS];exact(hE.au.1.2).lt
 have aeW:gj<B9:=by rw[jS];exact(hE.au.2).lt
 have ZF:g5<B9:=by rw[jS];exact(hE.e8.1.1.1.1.1.1.1.2).lt
 have M1:gL<B9:=by rw[jS];exact(hE.h11).lt
 have ZG:jd<B9:=by rw[jS];exact(hE.h10).lt
 have ZH:iD<B9:=by rw[jS];exact(hE.h8).lt
 have ZI:jr<B9:=by rw[jS];exact(hE.h7).lt
 have ZJ:js<B9:=by rw[jS];exact(hE.h6).lt
 have ZK:fJ<B9:=by rw[jS];exact(hE.h2).lt
 have ZL:gM<B9:=by rw[jS];exact(hE.here.1.2).lt
 have ZM:gO<B9:=by rw[jS];exact(hE.here.2).lt
 refine dP (I:=cN w _ _ B9 [⟨8,139,eH (qv+qp)⟩,⟨10,141,eH (qv+qp-ql)⟩,⟨11,15,jv 29 aY B9⟩]) [8,10,11] (f1:=1) (by kernel_rfl) (by kernel_rfl) (by kernel_rfl) rfl (by kernel_rfl) (by kernel_rfl) (by rfl) (cN.start hE jS (by kernel_rfl)) ?ZN ?aqs
 case ZN=>
  have hst:∀g∈([⟨8,139,eH (qv+qp)⟩,⟨10,141,eH (qv+qp-ql)⟩,⟨11,15,jv 29 aY B9⟩]:List bz),∀x,bq (g.R x):=(fun g hg=>by simp only[List.mem_cons,List.not_mem_nil,or_false] at hg;rcases hg with rfl|rfl|rfl<;>first|exact eH.stable _|exact jv.stable _ _ _|exact Kv.stable _|exact Kw.stable _)
  clear hE hHeld jS;refine aH.cons (ds:=[5,6,7]) rfl (by kernel_rfl) (fun D a W0 hI hD K hK=> ?_) ?_
  ·
   have hE:=hI.here;obtain⟨xs,rfl,-,hF,-,-⟩:=id hI;obtain⟨ZO,xs,rfl,Jb,hF⟩:=hF.ag;obtain⟨M3,xs,rfl,Cb,hF⟩:=hF.ag;obtain⟨M4,xs,rfl,Cc,hF⟩:=hF.ag;obtain rfl:=hF.nil;clear hF;try simp only[aT,Act.put,List.setIfInBounds_toArray,List.set_cons_zero,List.set_cons_succ,List.getElem_toArray,List.getElem_cons_succ,List.getElem_cons_zero]
   go_simp;refine(ou (ca:=cv) (da:=dv) (cb:=cp) (db:=dp) (cD (show ak _ gw (nO x (t:Int) gA gD b0 b1 j) _ from hE.cV.1.2)) (hE.au.1.1.1.1.1.2) (hE.e8.1.1.1.1.1.1.2) gP.out.l1 gP.out.l4 gP.out.b1).mono ?_
   rintro e W1 ⟨se,Ae,ne,ce,te,Be,me,de,rfl,hv,hb⟩
   have bG:=hE.step hb;go_wp2_with fail
   refine hK.out _ _ (⟨bG.cV.1.2,bG.au.1.1.1.1.2,bG.e8.1.1.1.1.1.1.1.2,bG.here.1.1.1.1.1.1.1.1.1.1.1.2⟩) ?_;exact hI.call (c:=ce) (d:=de) 0 hst rfl (by kernel_rfl) (by kernel_rfl) (by kernel_rfl) hb hv
  refine aH.cons (ds:=[2,8,9,8]) rfl (by kernel_rfl) (fun D a W0 hI hD K hK=> ?_) ?_
  ·
   have hE:=hI.here;obtain⟨xs,rfl,-,hF,-,-⟩:=id hI;obtain⟨ZO,xs,rfl,Jb,hF⟩:=hF.ag;obtain⟨M3,xs,rfl,Cb,hF⟩:=hF.ag;obtain⟨M4,xs,rfl,Cc,hF⟩:=hF.ag;obtain rfl:=hF.nil;clear hF;try simp only[aT,Act.put,List.setIfInBounds_toArray,List.set_cons_zero,List.set_cons_succ,List.getElem_toArray,List.getElem_cons_succ,List.getElem_cons_zero]
   obtain⟨se,Ae,ne,ce,te,Be,me,de,rfl,hq⟩:=Jb (hD 8 (by simp));replace hE:=hE.fv hq;clear hq;go_simp;refine(kP (ca:=ce) (da:=de) (cb:=cl) (db:=dl) (cD (show ak _ gw (nO x (t:Int) gA gD b0 b1 j) _ from hE.cV.1.1.2)) (hE.here.2) (hE.e8.1.1.1.1.1.1.2) gP.out.b1 gP.out.l5 gP.out.b2).mono ?_
   rintro e W1 ⟨sf,Af,nf,cf,tf,Bf,mf,df,rfl,hv,hb⟩
   have bG:=hE.step hb;go_wp2_with fail
   refine hK.out _ _ (⟨bG.cV.1.1.2,bG.au.1.1.1.1.1.2,bG.au.2,bG.here.1.1.1.1.1.1.1.1.1.1.1.1.2⟩) ?_;exact hI.call (c:=cf) (d:=df) 1 hst rfl (by kernel_rfl) (by kernel_rfl) (by kernel_rfl) hb hv
  refine aH.cons (ds:=[]) rfl (by kernel_rfl) (fun D a W0 hI hD K hK=> ?_) ?_
  ·
   have hE:=hI.here;obtain⟨xs,rfl,-,hF,-,-⟩:=id hI;obtain⟨ZO,xs,rfl,Jb,hF⟩:=hF.ag;obtain⟨M3,xs,rfl,Cb,hF⟩:=hF.ag;obtain⟨M4,xs,rfl,Cc,hF⟩:=hF.ag;obtain rfl:=hF.nil;clear hF;try simp only[aT,Act.put,List.setIfInBounds_toArray,List.set_cons_zero,List.set_cons_succ,List.getElem_toArray,List.getElem_cons_succ,List.getElem_cons_zero]
   go_simp;have bG:=hE.alloc (.cells aY 29);refine hK.out _ _ (⟨bG.cV.1.2,bG.au.1.1.1.1.2,bG.e8.1.1.1.1.1.1.1.2,bG.here.1.1.1.1.1.1.1.1.1.1.1.2⟩) ?_;exact hI.alloc 2 hst rfl (by kernel_rfl) (by kernel_rfl) (by kernel_rfl)
  exact aH.nil
 clear hE hHeld jS;intro D a W9 hI hD;have hE:=hI.here;obtain⟨xs,rfl,-,hF,hA,-⟩:=id hI;clear hI;obtain⟨ZO,xs,rfl,Jb,hF⟩:=hF.ag;obtain⟨M3,xs,rfl,Cb,hF⟩:=hF.ag;obtain⟨M4,xs,rfl,Cc,hF⟩:=hF.ag;obtain rfl:=hF.nil;clear hF;obtain⟨se,Ae,ne,ce,te,Be,me,de,rfl,hq8⟩:=Jb (hD 8 (by simp));obtain⟨sf,Af,nf,cf,tf,Bf,mf,df,rfl,tO⟩:=Cb (hD 10 (by simp));obtain⟨jy,rfl,ZP,jV⟩:=Cc (hD 11 (by simp));replace hE:=(((hE.fv hq8).fv tO).af jV);clear hA hD hq8 Jb tO Cb jV Cc;try simp only[aT,Act.put,List.setIfInBounds_toArray,List.set_cons_zero,List.set_cons_succ,List.getElem_toArray,List.getElem_cons_succ,List.getElem_cons_zero]
 have hHeld:(fun V=>ak 125 (gw) (tM x t gA gD b0 b1 j) V/\ak 29 (eT) (az sv Av nv cv tv Bv mv dv) V/\ak 29 (g5) (az sp Ap np cp tp Bp mp dp) V/\ak 29 (gL) (az sl Al nl cl tl Bl ml dl) V) W9:=⟨hE.cV.1.1.1.1.2,hE.au.1.1.1.1.1.1.1.2,hE.au.1.1.2,hE.e8.1.1.1.1.1.1.2⟩;refine r1 12 (fun K hK=> ?_)
 have Cd:w.heap.size<=jy:=by omega
 obtain⟨M5,M6,M7,M8⟩:=(hE.here.2).c4;obtain⟨M9,Na,Nb,Nc⟩:=hE.here.2.f4;replace hE:=((((((((((((((((((((((((((((((Env.again (ck hE.av Cd (.bool sf) (.slice Af nf cf) (.bool tf) (.slice Bf mf df))).af ((hE.cV.1.1.1.1.2).ai (by omega) _ _ _ _)).fv ((hE.cV.1.1.1.2).aq hE.here.2 rfl _ _ _ _ rfl rfl rfl)).fv ((hE.cV.1.1.2).aq hE.here.2 rfl _ _ _ _ rfl rfl rfl)).af ((hE.cV.1.2).ai (by omega) _ _ _ _)).fv ((hE.cV.2).aq hE.here.2 rfl _ _ _ _ rfl rfl rfl)).af ((hE.au.1.1.1.1.1.1.1.2).ai (by omega) _ _ _ _)).fv ((hE.au.1.1.1.1.1.1.2).aq hE.here.2 rfl _ _ _ _ rfl rfl rfl)).fv ((hE.au.1.1.1.1.1.2).aq hE.here.2 rfl _ _ _ _ rfl rfl rfl)).af ((hE.au.1.1.1.1.2).ai (by omega) _ _ _ _)).af ((hE.au.1.1.1.2).ai (by omega) _ _ _ _)).af ((hE.au.1.1.2).ai (by omega) _ _ _ _)).fv ((hE.au.1.2).aq hE.here.2 rfl _ _ _ _ rfl rfl rfl)).fv ((hE.au.2).aq hE.here.2 rfl _ _ _ _ rfl rfl rfl)).fv ((hE.e8.1.1.1.1.1.1.1.2).aq hE.here.2 rfl _ _ _ _ rfl rfl rfl)).af ((hE.e8.1.1.1.1.1.1.2).ai (by omega) _ _ _ _)).af ((hE.bZ).ai (by omega) _ _ _ _)).fv ((hE.h12).aq hE.here.2 rfl _ _ _ _ rfl rfl rfl)).af ((hE.h11).ai (by omega) _ _ _ _)).af ((hE.h10).ai (by omega) _ _ _ _)).af ((hE.h9).ai (by omega) _ _ _ _)).fv ((hE.h8).aq hE.here.2 rfl _ _ _ _ rfl rfl rfl)).fv ((hE.h7).aq hE.here.2 rfl _ _ _ _ rfl rfl rfl)).fv ((hE.h6).aq hE.here.2 rfl _ _ _ _ rfl rfl rfl)).af ((hE.h5).ai (by omega) _ _ _ _)).af ((hE.h4).ai (by omega) _ _ _ _)).af ((hE.h3).ai (by omega) _ _ _ _)).fv ((hE.h2).aq hE.here.2 rfl _ _ _ _ rfl rfl rfl)).fv ((hE.here.1.2).aq hE.here.2 rfl _ _ _ _ rfl rfl rfl)).af ((hE.here.2).s4 _ _ _ _));go_simp;clear M5 M6 M7 M8 M9 Na Nb Nc Cd;generalize ((((W9.setCell ⟨jy,0,none⟩ (.bool sf)).setCell ⟨jy,1,none⟩ (.slice Af nf cf)).setCell ⟨jy,2,none⟩ (.bool tf)).setCell ⟨jy,3,none⟩ (.slice Bf mf df))=W19 at hE⊢;refine hK.out _ _ (⟨hE.cV.1.1.1.1.2,hE.au.1.1.1.1.1.1.1.2,hE.au.1.1.2,hE.e8.1.1.1.1.1.1.2⟩) (fun hHeld=> ?_);clear hK K;try simp only[PL]
 refine wpAnyH_done (by kernel_rfl) ?_ _
 go_upto_region 10 with(fail)
 clear hw9 M0 Wv aeU aeV aeW ZF M1 ZG ZH ZI ZJ ZK ZL ZM ZP
 have zO:fl qn<=256/\fl qm<=256/\fl (qn-qm)<=256:=by rw[<-Mz.out,<-ad6.out,<-ad7.out];exact⟨qo (by omega) (by omega),qo (by omega) (by omega),qo (by omega) (by omega)⟩
 have lH:fl ((1:Int):Rat)<=256:=qo (by decide) (by decide);replace hE:=hE.drew;refine wp_region_held_drew (S:=fun V=>ak 125 (gw) (tM x t gA gD b0 b1 j) V/\ak 29 (fJ) (az sn An nn cn tn Bn mn dn) V/\ak 29 (jy) (az sf Af nf cf tf Bf mf df) V) (by kernel_rfl) (⟨hE.cV.1.1.1.1.2,hE.h5,hE.here.2⟩) (fun hHeld=> ?_)
 generalize W19.drew=wd at*
 refine tk 0 ?_;refine tk 1 ?_;refine tk 2 ?_
 refine tk 3 ?_ (hy:=by
  intro w ay;have iM:=(ay.2.1).cell 0;have iP:=(ay.2.1).cell 1;have jb:=(ay.2.1).cell 2;have jc:=(ay.2.1).cell 3;clear ay
  first|(go_simp;done)|(go_simp;with_reducible rfl))
 try simp only[PL]
 refine tk 4 ?_ (hy:=by
  intro w ay;have iM:=(ay.2.2).cell 0;have iP:=(ay.2.2).cell 1;have jb:=(ay.2.2).cell 2;have jc:=(ay.2.2).cell 3;clear ay
  first|(go_simp;done)|(go_simp;with_reducible rfl))
 try simp only[PL]
 obtain⟨yD,kR⟩:∃B,B=wd.heap.size:=⟨_,rfl⟩
 have alC:w.heap.size<=yD:=by rw[kR];exact hE.av.size
 have ZQ:gw<yD:=by rw[kR];exact(hE.cV.1.1.1.1.2).lt
 have eX:w.heap.size<yD:=by rw[kR];exact(hE.cV.1.2).lt
 have ZR:eT<yD:=by rw[kR];exact(hE.au.1.1.1.1.1.1.1.2).lt
 have ZS:gh<yD:=by rw[kR];exact(hE.au.1.1.1.1.2).lt
 have ZT:gj<yD:=by rw[kR];exact(hE.au.1.1.1.2).lt
 have S0:g5<yD:=by rw[kR];exact(hE.au.1.1.2).lt
 have S1:gL<yD:=by rw[kR];exact(hE.e8.1.1.1.1.1.1.2).lt
 have S4:jd<yD:=by rw[kR];exact(hE.bZ).lt
 have S5:iD<yD:=by rw[kR];exact(hE.h11).lt
 have S6:jr<yD:=by rw[kR];exact(hE.h10).lt
 have S7:js<yD:=by rw[kR];exact(hE.h9).lt
 have S8:fJ<yD:=by rw[kR];exact(hE.h5).lt
 have S9:gM<yD:=by rw[kR];exact(hE.h4).lt
 have Ta:gO<yD:=by rw[kR];exact(hE.h3).lt
 have Tb:jy<yD:=by rw[kR];exact(hE.here.2).lt
 refine dP (I:=cN w _ _ yD [⟨5,147,eH (qn*(qv+qp-ql))⟩,⟨6,16,jv 29 aY yD⟩]) [5,6] (f1:=1) (by kernel_rfl) (by kernel_rfl) (by kernel_rfl) rfl (by kernel_rfl) (by kernel_rfl) (by rfl) (cN.start hE kR (by kernel_rfl)) ?Tc ?aoP
 case Tc=>
  have hst:∀g∈([⟨5,147,eH (qn*(qv+qp-ql))⟩,⟨6,16,jv 29 aY yD⟩]:List bz),∀x,bq (g.R x):=(fun g hg=>by simp only[List.mem_cons,List.not_mem_nil,or_false] at hg;rcases hg with rfl|rfl<;>first|exact eH.stable _|exact jv.stable _ _ _|exact Kv.stable _|exact Kw.stable _)
  clear hE hHeld kR;refine aH.cons (ds:=[2,3,4]) rfl (by kernel_rfl) (fun D a W0 hI hD K hK=> ?_) ?_
  ·
   have hE:=hI.here;obtain⟨xs,rfl,-,hF,-,-⟩:=id hI;obtain⟨Gd,xs,rfl,Ge,hF⟩:=hF.ag;obtain⟨Gf,xs,rfl,Gg,hF⟩:=hF.ag;obtain rfl:=hF.nil;clear hF;try simp only[aT,Act.put,List.setIfInBounds_toArray,List.set_cons_zero,List.set_cons_succ,List.getElem_toArray,List.getElem_cons_succ,List.getElem_cons_zero]
   go_simp;refine(fX (ca:=cn) (da:=dn) (cb:=cf) (db:=df) (cD (show ak _ gw (nO x (t:Int) gA gD b0 b1 j) _ from hE.cV.1.1.1.1.2)) (hE.h8) (hE.here.1.2) zO.1 gP.out.b2 gP.out.b3).mono ?_
   rintro e W1 ⟨sg,Ag,ng,cg,tg,Bg,mg,dg,rfl,hv,hb⟩
   have bG:=hE.step hb;go_wp2_with fail
   refine hK.out _ _ (⟨bG.cV.1.1.1.1.2,bG.here.1.1.1.1.1.2,bG.here.2⟩) ?_;exact hI.call (c:=cg) (d:=dg) 0 hst rfl (by kernel_rfl) (by kernel_rfl) (by kernel_rfl) hb hv
  refine aH.cons (ds:=[]) rfl (by kernel_rfl) (fun D a W0 hI hD K hK=> ?_) ?_
  ·
   have hE:=hI.here;obtain⟨xs,rfl,-,hF,-,-⟩:=id hI;obtain⟨Gd,xs,rfl,Ge,hF⟩:=hF.ag;obtain⟨Gf,xs,rfl,Gg,hF⟩:=hF.ag;obtain rfl:=hF.nil;clear hF;try simp only[aT,Act.put,List.setIfInBounds_toArray,List.set_cons_zero,List.set_cons_succ,List.getElem_toArray,List.getElem_cons_succ,List.getElem_cons_zero]
   go_simp;have bG:=hE.alloc (.cells aY 29);refine hK.out _ _ (⟨bG.cV.1.1.1.1.2,bG.here.1.1.1.1.1.2,bG.here.2⟩) ?_;exact hI.alloc 1 hst rfl (by kernel_rfl) (by kernel_rfl) (by kernel_rfl)
  exact aH.nil
 clear hE hHeld kR;intro D a uV hI hD;have hE:=hI.here;obtain⟨xs,rfl,-,hF,hA,-⟩:=id hI;clear hI;obtain⟨Gd,xs,rfl,Ge,hF⟩:=hF.ag;obtain⟨Gf,xs,rfl,Gg,hF⟩:=hF.ag;obtain rfl:=hF.nil;clear hF;obtain⟨sg,Ag,ng,cg,tg,Bg,mg,dg,rfl,hq5⟩:=Ge (hD 5 (by simp));obtain⟨mE,rfl,ZU,hq6⟩:=Gg (hD 6 (by simp));replace hE:=((hE.fv hq5).af hq6);clear hA hD hq5 Ge hq6 Gg;try simp only[aT,Act.put,List.setIfInBounds_toArray,List.set_cons_zero,List.set_cons_succ,List.getElem_toArray,List.getElem_cons_succ,List.getElem_cons_zero]
 have hHeld:(fun V=>ak 125 (gw) (tM x t gA gD b0 b1 j) V/\ak 29 (fJ) (az sn An nn cn tn Bn mn dn) V/\ak 29 (jy) (az sf Af nf cf tf Bf mf df) V) uV:=⟨hE.cV.1.1.1.1.1.1.2,hE.h7,hE.h2⟩;refine r1 7 (fun K hK=> ?_)
 have Ce:w.heap.size<=mE:=by omega
 obtain⟨Nd,jz,aeX,lI⟩:=(hE.here.2).c4;obtain⟨Nf,Ng,aeY,aeZ⟩:=hE.here.2.f4;replace hE:=((((((((((((((((((((((((((((((((Env.again (ck hE.av Ce (.bool sg) (.slice Ag ng cg) (.bool tg) (.slice Bg mg dg))).af ((hE.cV.1.1.1.1.1.1.2).ai (by omega) _ _ _ _)).fv ((hE.cV.1.1.1.1.1.2).aq hE.here.2 rfl _ _ _ _ rfl rfl rfl)).fv ((hE.cV.1.1.1.1.2).aq hE.here.2 rfl _ _ _ _ rfl rfl rfl)).af ((hE.cV.1.1.1.2).ai (by omega) _ _ _ _)).fv ((hE.cV.1.1.2).aq hE.here.2 rfl _ _ _ _ rfl rfl rfl)).af ((hE.cV.1.2).ai (by omega) _ _ _ _)).fv ((hE.cV.2).aq hE.here.2 rfl _ _ _ _ rfl rfl rfl)).fv ((hE.au.1.1.1.1.1.1.1.2).aq hE.here.2 rfl _ _ _ _ rfl rfl rfl)).af ((hE.au.1.1.1.1.1.1.2).ai (by omega) _ _ _ _)).af ((hE.au.1.1.1.1.1.2).ai (by omega) _ _ _ _)).af ((hE.au.1.1.1.1.2).ai (by omega) _ _ _ _)).fv ((hE.au.1.1.1.2).aq hE.here.2 rfl _ _ _ _ rfl rfl rfl)).fv ((hE.au.1.1.2).aq hE.here.2 rfl _ _ _ _ rfl rfl rfl)).fv ((hE.au.1.2).aq hE.here.2 rfl _ _ _ _ rfl rfl rfl)).af ((hE.au.2).ai (by omega) _ _ _ _)).af ((hE.e8.1.1.1.1.1.1.1.2).ai (by omega) _ _ _ _)).fv ((hE.e8.1.1.1.1.1.1.2).aq hE.here.2 rfl _ _ _ _ rfl rfl rfl)).af ((hE.bZ).ai (by omega) _ _ _ _)).af ((hE.h12).ai (by omega) _ _ _ _)).af ((hE.h11).ai (by omega) _ _ _ _)).fv ((hE.h10).aq hE.here.2 rfl _ _ _ _ rfl rfl rfl)).fv ((hE.h9).aq hE.here.2 rfl _ _ _ _ rfl rfl rfl)).fv ((hE.h8).aq hE.here.2 rfl _ _ _ _ rfl rfl rfl)).af ((hE.h7).ai (by omega) _ _ _ _)).af ((hE.h6).ai (by omega) _ _ _ _)).af ((hE.h5).ai (by omega) _ _ _ _)).fv ((hE.h4).aq hE.here.2 rfl _ _ _ _ rfl rfl rfl)).fv ((hE.h3).aq hE.here.2 rfl _ _ _ _ rfl rfl rfl)).af ((hE.h2).ai (by omega) _ _ _ _)).fv ((hE.here.1.2).aq hE.here.2 rfl _ _ _ _ rfl rfl rfl)).af ((hE.here.2).s4 _ _ _ _));go_simp;clear Nd jz aeX lI Nf Ng aeY aeZ Ce;generalize ((((uV.setCell ⟨mE,0,none⟩ (.bool sg)).setCell ⟨mE,1,none⟩ (.slice Ag ng cg)).setCell ⟨mE,2,none⟩ (.bool tg)).setCell ⟨mE,3,none⟩ (.slice Bg mg dg))=W20 at hE⊢;refine hK.out _ _ (⟨hE.cV.1.1.1.1.1.1.2,hE.h7,hE.h2⟩) (fun hHeld=> ?_);clear hK K;try simp only[PL]
 refine wpAnyH_done (by kernel_rfl) ?_ _
 go_upto_region 11 with(fail)
 clear alC ZQ eX ZR ZS ZT S0 S1 S4 S5 S6 S7 S8 S9 Ta Tb ZU
 go_cut [17] from 131 to 159 (fun p0 wx=>∃gm Wf Wh Wj ZV Wg Wi Wk ZW sh Ah nh ch th Bh mh dh sw Aw nw cw tw Bw mw dw,p0= .pointer (some ⟨gm,0,none⟩)/\Env w (fun V=>(((((((((((((((((((((((((((((((((((True/\ak 125 (gw) (tM x t gA gD b0 b1 j) V)/\FV V qi b0.i.s b0.i.A b0.i.n b0.i.t b0.i.B b0.i.m)/\FV V qj j.s j.A j.n j.t j.B j.m)/\ak 126 (w.heap.size) #[.bool false,.slice none 0 0,.bool false,.slice none 0 0,.bool false,.slice none 0 0,.bool false,.slice none 0 0,.bool false,.slice none 0 0,.bool false,.slice none 0 0,.bool false,.slice none 0 0,.bool false,.slice none 0 0,.bool false,.slice none 0 0,.bool false,.slice none 0 0,.bool false,.slice none 0 0,.bool false,.slice none 0 0,.bool false,.slice none 0 0,.bool false,.slice none 0 0,.bool false,.slice none 0 0,.bool false,.slice none 0 0,.bool false,.slice none 0 0,.bool false,.slice none 0 0,.bool false,.slice none 0 0,.bool false,.slice none 0 0] V)/\FV V qv sv Av nv tv Bv mv)/\ak 29 (eT) (az sv Av nv cv tv Bv mv dv) V)/\FV V qa sa Aa na ta Ba ma)/\FV V qu su Au nu tu Bu mu)/\ak 29 (gh) (az sa Aa na ca ta Ba ma da) V)/\ak 29 (gj) (az su Au nu cu tu Bu mu du) V)/\ak 29 (g5) (az sp Ap np cp tp Bp mp dp) V)/\FV V qp sp Ap np tp Bp mp)/\FV V ql sl Al nl tl Bl ml)/\FV V qd sd Ad nd td Bd md)/\ak 29 (gL) (az sl Al nl cl tl Bl ml dl) V)/\ak 29 (jd) (az sd Ad nd cd td Bd md dd) V)/\FV V qq sq Aq nq tq Bq mq)/\ak 29 (iD) (az b0.i.s b0.i.A b0.i.n b0.i.c b0.i.t b0.i.B b0.i.m b0.i.d) V)/\ak 29 (jr) (az j.s j.A j.n j.c j.t j.B j.m j.d) V)/\ak 29 (js) (az sq Aq nq cq tq Bq mq dq) V)/\FV V qn sn An nn tn Bn mn)/\FV V qm sm Am nm tm Bm mm)/\FV V (qn-qm) sr Ar nr tr Br mr)/\ak 29 (fJ) (az sn An nn cn tn Bn mn dn) V)/\ak 29 (gM) (az sm Am nm cm tm Bm mm dm) V)/\ak 29 (gO) (az sr Ar nr cr tr Br mr dr) V)/\FV V (qv+qp) se Ae ne te Be me)/\FV V (qv+qp-ql) sf Af nf tf Bf mf)/\ak 29 (jy) (az sf Af nf cf tf Bf mf df) V)/\FV V (qn*(qv+qp-ql)) sg Ag ng tg Bg mg)/\ak 29 (mE) (az sg Ag ng cg tg Bg mg dg) V)/\FV V ((1:Int):Rat) Wf Wh Wj Wg Wi Wk)/\FV V (((1:Int):Rat)+qi) sh Ah nh th Bh mh)/\FV V ((qv+qp-ql)*(1+qi)) sw Aw nw tw Bw mw)/\ak 29 (gm) (az sw Aw nw cw tw Bw mw dw) V)) wx)
 case first=>
  replace hE:=hE.drew;refine wp_region_held_drew (S:=fun V=>ak 125 (gw) (tM x t gA gD b0 b1 j) V/\ak 29 (jy) (az sf Af nf cf tf Bf mf df) V/\ak 29 (iD) (az b0.i.s b0.i.A b0.i.n b0.i.c b0.i.t b0.i.B b0.i.m b0.i.d) V) (by kernel_rfl) (⟨hE.cV.1.1.1.1.1.1.2,hE.h2,hE.bZ⟩) (fun hHeld=> ?_)
  generalize W20.drew=wd at*
  refine tk 0 ?_;refine tk 1 ?_;refine tk 2 ?_
  refine tk 3 ?_ (hy:=by
   intro w ay;have iM:=(ay.2.1).cell 0;have iP:=(ay.2.1).cell 1;have jb:=(ay.2.1).cell 2;have jc:=(ay.2.1).cell 3;clear ay
   first|(go_simp;done)|(go_simp;with_reducible rfl))
  try simp only[PL]
  refine tk 4 ?_;refine tk 5 ?_;refine tk 6 ?_
  refine tk 8 ?_ (hy:=by
   intro w ay;have iM:=(ay.2.2).cell 0;have iP:=(ay.2.2).cell 1;have jb:=(ay.2.2).cell 2;have jc:=(ay.2.2).cell 3;clear ay
   first|(go_simp;done)|(go_simp;with_reducible rfl))
  try simp only[PL]
  obtain⟨wm,jW⟩:∃B,B=wd.heap.size:=⟨_,rfl⟩
  have aqt:w.heap.size<=wm:=by rw[jW];exact hE.av.size
  have Mr:gw<wm:=by rw[jW];exact(hE.cV.1.1.1.1.1.1.2).lt
  have ZX:w.heap.size<wm:=by rw[jW];exact(hE.cV.1.1.1.2).lt
  have alD:eT<wm:=by rw[jW];exact(hE.cV.1.2).lt
  have alE:gh<wm:=by rw[jW];exact(hE.au.1.1.1.1.1.1.2).lt
  have ZY:gj<wm:=by rw[jW];exact(hE.au.1.1.1.1.1.2).lt
  have Td:g5<wm:=by rw[jW];exact(hE.au.1.1.1.1.2).lt
  have aiA:gL<wm:=by rw[jW];exact(hE.au.2).lt
  have aiB:jd<wm:=by rw[jW];exact(hE.e8.1.1.1.1.1.1.1.2).lt
  have aiC:iD<wm:=by rw[jW];exact(hE.bZ).lt
  have aiD:jr<wm:=by rw[jW];exact(hE.h12).lt
  have aiE:js<wm:=by rw[jW];exact(hE.h11).lt
  have aiF:fJ<wm:=by rw[jW];exact(hE.h7).lt
  have aiG:gM<wm:=by rw[jW];exact(hE.h6).lt
  have aiH:gO<wm:=by rw[jW];exact(hE.h5).lt
  have aiI:jy<wm:=by rw[jW];exact(hE.h2).lt
  have aiJ:mE<wm:=by rw[jW];exact(hE.here.2).lt
  refine dP (I:=cN w _ _ wm [⟨7,155,eH ((1:Int):Rat)⟩,⟨9,157,eH (((1:Int):Rat)+qi)⟩,⟨10,158,eH ((qv+qp-ql)*(1+qi))⟩,⟨11,17,jv 29 aY wm⟩]) [7,9,10,11] (f1:=1) (by kernel_rfl) (by kernel_rfl) (by kernel_rfl) rfl (by kernel_rfl) (by kernel_rfl) (by rfl) (cN.start hE jW (by kernel_rfl)) ?Te ?aoQ
  case Te=>
   have hst:∀g∈([⟨7,155,eH ((1:Int):Rat)⟩,⟨9,157,eH (((1:Int):Rat)+qi)⟩,⟨10,158,eH ((qv+qp-ql)*(1+qi))⟩,⟨11,17,jv 29 aY wm⟩]:List bz),∀x,bq (g.R x):=(fun g hg=>by simp only[List.mem_cons,List.not_mem_nil,or_false] at hg;rcases hg with rfl|rfl|rfl|rfl<;>first|exact eH.stable _|exact jv.stable _ _ _|exact Kv.stable _|exact Kw.stable _)
   clear hE hHeld jW;refine aH.cons (ds:=[]) rfl (by kernel_rfl) (fun D a W0 hI hD K hK=> ?_) ?_
   ·
    have hE:=hI.here;obtain⟨xs,rfl,-,hF,-,-⟩:=id hI;obtain⟨Gh,xs,rfl,tU,hF⟩:=hF.ag;obtain⟨Gi,xs,rfl,tV,hF⟩:=hF.ag;obtain⟨yE,xs,rfl,qs,hF⟩:=hF.ag;obtain⟨yF,xs,rfl,qt,hF⟩:=hF.ag;obtain rfl:=hF.nil;clear hF;try simp only[aT,Act.put,List.setIfInBounds_toArray,List.set_cons_zero,List.set_cons_succ,List.getElem_toArray,List.getElem_cons_succ,List.getElem_cons_zero]
    go_simp;refine(aR 1 _ (by decide) (by decide)).mono ?_
    rintro e W1 ⟨Wf,Wh,Wj,ZV,Wg,Wi,Wk,ZW,rfl,hv,hb⟩
    have bG:=hE.step hb;go_wp2_with fail
    refine hK.out _ _ (⟨bG.cV.1.1.1.1.1.1.2,bG.here.1.1.2,bG.here.1.1.1.1.1.1.1.1.1.1.1.1.1.2⟩) ?_;exact hI.call (c:=ZV) (d:=ZW) 0 hst rfl (by kernel_rfl) (by kernel_rfl) (by kernel_rfl) hb hv
   refine aH.cons (ds:=[6,7,8,7]) rfl (by kernel_rfl) (fun D a W0 hI hD K hK=> ?_) ?_
   ·
    have hE:=hI.here;obtain⟨xs,rfl,-,hF,-,-⟩:=id hI;obtain⟨Gh,xs,rfl,tU,hF⟩:=hF.ag;obtain⟨Gi,xs,rfl,tV,hF⟩:=hF.ag;obtain⟨yE,xs,rfl,qs,hF⟩:=hF.ag;obtain⟨yF,xs,rfl,qt,hF⟩:=hF.ag;obtain rfl:=hF.nil;clear hF;try simp only[aT,Act.put,List.setIfInBounds_toArray,List.set_cons_zero,List.set_cons_succ,List.getElem_toArray,List.getElem_cons_succ,List.getElem_cons_zero]
    obtain⟨Wf,Wh,Wj,ZV,Wg,Wi,Wk,ZW,rfl,hq⟩:=tU (hD 7 (by simp));replace hE:=hE.fv hq;clear hq;go_simp;refine(ou (ca:=ZV) (da:=ZW) (cb:=b0.i.c) (db:=b0.i.d) (cD (show ak _ gw (nO x (t:Int) gA gD b0 b1 j) _ from hE.cV.1.1.1.1.1.1.1.2)) (hE.here.2) (hE.cV.1.1.1.1.1.1.2) lH gP.out.l7 gP.out.b4).mono ?_
    rintro e W1 ⟨sh,Ah,nh,ch,th,Bh,mh,dh,rfl,hv,hb⟩
    have bG:=hE.step hb;go_wp2_with fail
    refine hK.out _ _ (⟨bG.cV.1.1.1.1.1.1.1.2,bG.here.1.1.1.2,bG.e8.1.1.1.1.1.1.2⟩) ?_;exact hI.call (c:=ch) (d:=dh) 1 hst rfl (by kernel_rfl) (by kernel_rfl) (by kernel_rfl) hb hv
   refine aH.cons (ds:=[2,3,9,9]) rfl (by kernel_rfl) (fun D a W0 hI hD K hK=> ?_) ?_
   ·
    have hE:=hI.here;obtain⟨xs,rfl,-,hF,-,-⟩:=id hI;obtain⟨Gh,xs,rfl,tU,hF⟩:=hF.ag;obtain⟨Gi,xs,rfl,tV,hF⟩:=hF.ag;obtain⟨yE,xs,rfl,qs,hF⟩:=hF.ag;obtain⟨yF,xs,rfl,qt,hF⟩:=hF.ag;obtain rfl:=hF.nil;clear hF;try simp only[aT,Act.put,List.setIfInBounds_toArray,List.set_cons_zero,List.set_cons_succ,List.getElem_toArray,List.getElem_cons_succ,List.getElem_cons_zero]
    obtain⟨sh,Ah,nh,ch,th,Bh,mh,dh,rfl,hq⟩:=tV (hD 9 (by simp));replace hE:=hE.fv hq;clear hq;go_simp;refine(fX (ca:=cf) (da:=df) (cb:=ch) (db:=dh) (cD (show ak _ gw (nO x (t:Int) gA gD b0 b1 j) _ from hE.cV.1.1.1.1.1.1.1.2)) (hE.h4) (hE.here.2) gP.out.b2 gP.out.b4 gP.out.b5).mono ?_
    rintro e W1 ⟨sw,Aw,nw,cw,tw,Bw,mw,dw,rfl,hv,hb⟩
    have bG:=hE.step hb;go_wp2_with fail
    refine hK.out _ _ (⟨bG.cV.1.1.1.1.1.1.1.2,bG.here.1.1.1.2,bG.e8.1.1.1.1.1.1.2⟩) ?_;exact hI.call (c:=cw) (d:=dw) 2 hst rfl (by kernel_rfl) (by kernel_rfl) (by kernel_rfl) hb hv
   refine aH.cons (ds:=[]) rfl (by kernel_rfl) (fun D a W0 hI hD K hK=> ?_) ?_
   ·
    have hE:=hI.here;obtain⟨xs,rfl,-,hF,-,-⟩:=id hI;obtain⟨Gh,xs,rfl,tU,hF⟩:=hF.ag;obtain⟨Gi,xs,rfl,tV,hF⟩:=hF.ag;obtain⟨yE,xs,rfl,qs,hF⟩:=hF.ag;obtain⟨yF,xs,rfl,qt,hF⟩:=hF.ag;obtain rfl:=hF.nil;clear hF;try simp only[aT,Act.put,List.setIfInBounds_toArray,List.set_cons_zero,List.set_cons_succ,List.getElem_toArray,List.getElem_cons_succ,List.getElem_cons_zero]
    go_simp;have bG:=hE.alloc (.cells aY 29);refine hK.out _ _ (⟨bG.cV.1.1.1.1.1.1.2,bG.here.1.1.2,bG.here.1.1.1.1.1.1.1.1.1.1.1.1.1.2⟩) ?_;exact hI.alloc 3 hst rfl (by kernel_rfl) (by kernel_rfl) (by kernel_rfl)
   exact aH.nil
  clear hE hHeld jW;intro D a W11 hI hD;have hE:=hI.here;obtain⟨xs,rfl,-,hF,hA,-⟩:=id hI;clear hI;obtain⟨Gh,xs,rfl,tU,hF⟩:=hF.ag;obtain⟨Gi,xs,rfl,tV,hF⟩:=hF.ag;obtain⟨yE,xs,rfl,qs,hF⟩:=hF.ag;obtain⟨yF,xs,rfl,qt,hF⟩:=hF.ag;obtain rfl:=hF.nil;clear hF;obtain⟨Wf,Wh,Wj,ZV,Wg,Wi,Wk,ZW,rfl,Nh⟩:=tU (hD 7 (by simp));obtain⟨sh,Ah,nh,ch,th,Bh,mh,dh,rfl,Ni⟩:=tV (hD 9 (by simp));obtain⟨sw,Aw,nw,cw,tw,Bw,mw,dw,rfl,tO⟩:=qs (hD 10 (by simp));obtain⟨gm,rfl,aiK,jV⟩:=qt (hD 11 (by simp));replace hE:=((((hE.fv Nh).fv Ni).fv tO).af jV);clear hA hD Nh tU Ni tV tO qs jV qt;try simp only[aT,Act.put,List.setIfInBounds_toArray,List.set_cons_zero,List.set_cons_succ,List.getElem_toArray,List.getElem_cons_succ,List.getElem_cons_zero]
  have hHeld:(fun V=>ak 125 (gw) (tM x t gA gD b0 b1 j) V/\ak 29 (jy) (az sf Af nf cf tf Bf mf df) V/\ak 29 (iD) (az b0.i.s b0.i.A b0.i.n b0.i.c b0.i.t b0.i.B b0.i.m b0.i.d) V) W11:=⟨hE.yz.1.1.2,hE.h6,hE.au.1.2⟩;refine r1 12 (fun K hK=> ?_)
  have Ww:w.heap.size<=gm:=by omega
  obtain⟨ae0,ae3,ae4,ae5⟩:=(hE.here.2).c4;obtain⟨ae6,ae7,ae8,ae9⟩:=hE.here.2.f4;replace hE:=((((((((((((((((((((((((((((((((((((Env.again (ck hE.av Ww (.bool sw) (.slice Aw nw cw) (.bool tw) (.slice Bw mw dw))).af ((hE.yz.1.1.2).ai (by omega) _ _ _ _)).fv ((hE.yz.1.2).aq hE.here.2 rfl _ _ _ _ rfl rfl rfl)).fv ((hE.yz.2).aq hE.here.2 rfl _ _ _ _ rfl rfl rfl)).af ((hE.cV.1.1.1.1.1.1.1.2).ai (by omega) _ _ _ _)).fv ((hE.cV.1.1.1.1.1.1.2).aq hE.here.2 rfl _ _ _ _ rfl rfl rfl)).af ((hE.cV.1.1.1.1.1.2).ai (by omega) _ _ _ _)).fv ((hE.cV.1.1.1.1.2).aq hE.here.2 rfl _ _ _ _ rfl rfl rfl)).fv ((hE.cV.1.1.1.2).aq hE.here.2 rfl _ _ _ _ rfl rfl rfl)).af ((hE.cV.1.1.2).ai (by omega) _ _ _ _)).af ((hE.cV.1.2).ai (by omega) _ _ _ _)).af ((hE.cV.2).ai (by omega) _ _ _ _)).fv ((hE.au.1.1.1.1.1.1.1.2).aq hE.here.2 rfl _ _ _ _ rfl rfl rfl)).fv ((hE.au.1.1.1.1.1.1.2).aq hE.here.2 rfl _ _ _ _ rfl rfl rfl)).fv ((hE.au.1.1.1.1.1.2).aq hE.here.2 rfl _ _ _ _ rfl rfl rfl)).af ((hE.au.1.1.1.1.2).ai (by omega) _ _ _ _)).af ((hE.au.1.1.1.2).ai (by omega) _ _ _ _)).fv ((hE.au.1.1.2).aq hE.here.2 rfl _ _ _ _ rfl rfl rfl)).af ((hE.au.1.2).ai (by omega) _ _ _ _)).af ((hE.au.2).ai (by omega) _ _ _ _)).af ((hE.e8.1.1.1.1.1.1.1.2).ai (by omega) _ _ _ _)).fv ((hE.e8.1.1.1.1.1.1.2).aq hE.here.2 rfl _ _ _ _ rfl rfl rfl)).fv ((hE.bZ).aq hE.here.2 rfl _ _ _ _ rfl rfl rfl)).fv ((hE.h12).aq hE.here.2 rfl _ _ _ _ rfl rfl rfl)).af ((hE.h11).ai (by omega) _ _ _ _)).af ((hE.h10).ai (by omega) _ _ _ _)).af ((hE.h9).ai (by omega) _ _ _ _)).fv ((hE.h8).aq hE.here.2 rfl _ _ _ _ rfl rfl rfl)).fv ((hE.h7).aq hE.here.2 rfl _ _ _ _ rfl rfl rfl)).af ((hE.h6).ai (by omega) _ _ _ _)).fv ((hE.h5).aq hE.here.2 rfl _ _ _ _ rfl rfl rfl)).af ((hE.h4).ai (by omega) _ _ _ _)).fv ((hE.h3).aq hE.here.2 rfl _ _ _ _ rfl rfl rfl)).fv ((hE.h2).aq hE.here.2 rfl _ _ _ _ rfl rfl rfl)).fv ((hE.here.1.2).aq hE.here.2 rfl _ _ _ _ rfl rfl rfl)).af ((hE.here.2).s4 _ _ _ _));go_simp
  clear ae0 ae3 ae4 ae5 ae6 ae7 ae8 ae9 Ww;generalize ((((W11.setCell ⟨gm,0,none⟩ (.bool sw)).setCell ⟨gm,1,none⟩ (.slice Aw nw cw)).setCell ⟨gm,2,none⟩ (.bool tw)).setCell ⟨gm,3,none⟩ (.slice Bw mw dw))=W21 at hE⊢;refine hK.out _ _ (⟨hE.yz.1.1.2,hE.h6,hE.au.1.2⟩) (fun hHeld=> ?_);clear hK K;try simp only[PL]
  refine wpAnyH_done (by kernel_rfl) ?_ _;go_wp2_with fail
  go_meet
  exact⟨gm,Wf,Wh,Wj,ZV,Wg,Wi,Wk,ZW,sh,Ah,nh,ch,th,Bh,mh,dh,sw,Aw,nw,cw,tw,Bw,mw,dw,rfl,((((((((((((((((((((((((((((((((((((Env.again hE.av).af (hE.yz.1.1.2)).fv (hE.yz.1.2)).fv (hE.yz.2)).af (hE.cV.1.1.1.1.1.1.1.2)).fv (hE.cV.1.1.1.1.1.1.2)).af (hE.cV.1.1.1.1.1.2)).fv (hE.cV.1.1.1.1.2)).fv (hE.cV.1.1.1.2)).af (hE.cV.1.1.2)).af (hE.cV.1.2)).af (hE.cV.2)).fv (hE.au.1.1.1.1.1.1.1.2)).fv (hE.au.1.1.1.1.1.1.2)).fv (hE.au.1.1.1.1.1.2)).af (hE.au.1.1.1.1.2)).af (hE.au.1.1.1.2)).fv (hE.au.1.1.2)).af (hE.au.1.2)).af (hE.au.2)).af (hE.e8.1.1.1.1.1.1.1.2)).fv (hE.e8.1.1.1.1.1.1.2)).fv (hE.bZ)).fv (hE.h12)).af (hE.h11)).af (hE.h10)).af (hE.h9)).fv (hE.h8)).fv (hE.h7)).af (hE.h6)).fv (hE.h5)).af (hE.h4)).fv (hE.h3)).fv (hE.h2)).fv (hE.here.1.2)).af (hE.here.2))⟩
 case rest=>
 clear hE;obtain⟨gm,Wf,Wh,Wj,ZV,Wg,Wi,Wk,ZW,sh,Ah,nh,ch,th,Bh,mh,dh,sw,Aw,nw,cw,tw,Bw,mw,dw,rfl,hE⟩:=hcut;generalize wc=adt at hE⊢
 go_upto_region 12 with(fail)
 refine Zg hE gP.out Mz.out zO (Kn.of rfl rfl ⟨rfl,rfl,rfl,rfl,rfl,rfl,rfl,rfl,rfl,rfl,rfl,rfl,rfl,rfl,rfl,rfl,trivial⟩) (fun _ _ _ _ _ h=>h) ?hend
 case hend=>
  intro a U hh ha hd9 iC hF aQ;go_wp2_with fail
  refine bodyPost_ret (v:= .agg (uY hh).toArray) (pz Tryz.results96 ha (run_loadVar_mid _ _ 0 _ (uY hh) _ (fun j v hv=>by rw[Nat.zero_add,iC.cell j,List.getElem?_toArray];exact hv) Tryz.underlying126 rfl (by kernel_rfl))) hd9 ?_;exact⟨hh,rfl,hF,aQ⟩
theorem ZZ {x:Ct}{gw:Nat}{gA gD:Int}{b0 b1:Bh}{j:FH}{t:Nat}{w:World}(hb:b0.rd w)(hd:b1.rd w)(hx:x.rd w)(hj:j.rd w)(lS:b0.bd)(hdb:b1.bd)(iB:x.bd)(hS:Er b0 b1 ⟨x,(t:Int),gA,gD⟩)(hJ:SX j)(hW:ak 125 gw (nO x (t:Int) gA gD b0 b1 j) w):
  Calls Tryz.prog 96 #[.pointer (some ⟨gw,0,none⟩)] w (ad2 (wq b0 b1 j.q ⟨x,(t:Int),gA,gD⟩) w):=
 SW rfl rfl rfl rfl rfl rfl rfl rfl rfl rfl rfl rfl hb hd hx hj lS hdb iB hS hJ hW (Nj hS hb hd hx hJ hj)
end Go.Proofs.YtclbiihcbfnjmaaGreat
