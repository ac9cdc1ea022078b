/-
  Parts.
-/
import Derived.Test.YtclbiihcbfnjmaaGreatE3
import Derived.Test.YtclbiihcbfnjmaaGreatFk
import Derived.Test.YtclbiihcbfnjmaaGreatEYL
import Derived.Test.YtclbiihcbfnjmaaGreatPA
set_option maxRecDepth 1000000
set_option maxHeartbeats 16000000
set_option linter.unusedSimpArgs false
namespace Go.Proofs.YtclbiihcbfnjmaaGreat
open Go.RowKit

abbrev vp (x:Ct)(t:Nat)(gA gD:Int)(b0 b1:Bh)(j:FH):Array Value:=#[.int .i64 0,.int .i64 x.E,.int .i64 x.Y,.int .i64 x.T,.bool x.p.s,.slice x.p.A x.p.n x.p.c,.bool x.p.t,.slice x.p.B x.p.m x.p.d,.slice x.A x.n x.c,.slice x.B x.m x.d,.int .i64 (t:Int),.int .i64 gA,.int .i64 gD,.int .i64 b0.F,.int .i64 b0.S,.slice b0.A b0.n b0.c,.bool b0.i.s,.slice b0.i.A b0.i.n b0.i.c,.bool b0.i.t,.slice b0.i.B b0.i.m b0.i.d,.int .i64 b1.F,.int .i64 b1.S,.slice b1.A b1.n b1.c,.bool b1.i.s,.slice b1.i.A b1.i.n b1.i.c,.bool b1.i.t,.slice b1.i.B b1.i.m b1.i.d,.bool j.s,.slice j.A j.n j.c,.bool j.t,.slice j.B j.m j.d]
abbrev qC (h:FH):List Value:=[.bool h.s,.slice h.A h.n h.c,.bool h.t,.slice h.B h.m h.d]
abbrev xp (h:Nat->FH):List Value:=qC (h 0)++(qC (h 1)++(qC (h 2)++(qC (h 3)++(qC (h 4)++(qC (h 5)++(qC (h 6)++(qC (h 7)++(qC (h 8)++qC (h 9)))))))))
def amH (a b c d e f g h i j:FH):Nat->FH
 |0=>a|1=>b|2=>c|3=>d|4=>e|5=>f|6=>g|7=>h|8=>i|_=>j
def agM (it:Nat->Rat)(w:World)(e:Ending)(w':World):Prop:=∃h:Nat->FH,e= .returned (.agg (xp h).toArray)/\(∀k,k<10->FV w' (it k) (h k).s (h k).A (h k).n (h k).t (h k).B (h k).m)/\Below w.heap.size w w'
theorem AA {P:Program}{w w':World}{o:Oper}{a:Act}{K:Act->World->Prop}{Q:Exit->Act->World->Prop}{ty:TypeId}{x y:Operand}{p v:Value}(hr:(Instr.storeAt ty p v).run P w= .ok () w')(ho:o.op= .store ty x y)(hx:a.eval x=p)(hy:a.eval y=v)(h:K (a.put o.dst undef) w'):o.wp P a w K Q:=by
 unfold Oper.wp execOp;simp only[ho,hx,hy,Sem.run_bind,Sem.run_pure,Result.andThen_ok,hr];exact h
theorem gG {p:Program}{f:FuncId}{args:Array Value}{w:World}{q r:Rat}(e:q=r)(h:Calls p f args w (FR q w)):Calls p f args w (FR r w):=e▸h
theorem qU {P:Program}{fn:Func}{tmps:Array Value}{w:World}{a:Tmp}{t:TypeId}{p:Addr}{v:Value}(hf:fn.results=#[.cell a t])(ha:tmps.getD a undef= .pointer (some p))(hl:(loadVar t p).run P w= .ok v w):(results fn tmps).run P w= .ok v w:=by
 unfold results;rw[hf]
 have vq:tmps[a]?.getD undef= .pointer (some p):=by simpa using ha
 simp[vq,asAddr,hl]
theorem Oy (h:Nat->FH):∀v∈xp h,v.oneCell'=true:=fun v hv=>by
 simp only[xp,qC,List.cons_append,List.nil_append,List.mem_cons,List.not_mem_nil,or_false] at hv
 rcases hv with rfl|rfl|rfl|rfl|rfl|rfl|rfl|rfl|rfl|rfl|rfl|rfl|rfl|rfl|rfl|rfl|rfl|rfl|rfl|rfl|rfl|rfl|rfl|rfl|rfl|rfl|rfl|rfl|rfl|rfl|rfl|rfl|rfl|rfl|rfl|rfl|rfl|rfl|rfl|rfl<;>rfl
noncomputable def Zq:Code:=(Tryz.f96.body.bind (tG 12)).getD .skip
noncomputable def jW:Array Oper:=match Zq with
 | .region _ o _=>o
 |_=>#[]
theorem es0 :ec .any jW (pO 97 0) [(true,0),(true,1),(true,2),(true,3),(true,4),(true,6),(true,7),(true,8)]=true:=by kernel_rfl
theorem es1 :ec .any jW (pO 97 479) [(true,9),(true,10),(true,12),(true,13),(true,14),(true,15),(true,16),(true,18)]=true:=by kernel_rfl
theorem es2 :ec .any jW (pO 97 391135) [(true,19),(true,20),(true,21),(true,22),(true,24),(true,25),(true,26),(true,27)]=true:=by kernel_rfl
theorem es3 :ec .any jW (pO 97 259913695) [(true,28),(true,30),(true,31),(true,32),(true,33),(true,34),(true,36),(true,37)]=true:=by kernel_rfl
theorem es4 :ec .any jW (pO 97 239972775903) [(true,38),(true,39),(true,40),(true,41),(true,42),(true,43),(true,44),(true,47)]=true:=by kernel_rfl
theorem es5 :ec .any jW (pO 97 175886955313119) [(true,48),(true,49),(true,50),(true,51),(true,52),(true,53),(true,54),(true,55)]=true:=by kernel_rfl
theorem es6 :ec .any jW (pO 97 71952006016530399) [(true,58),(true,59),(true,60),(true,61),(true,62),(true,63),(true,64),(true,65)]=true:=by kernel_rfl
theorem es7 :ec .any jW (pO 97 73570697924703025119) [(true,66),(true,67),(true,68),(true,70),(true,72),(true,73),(true,74),(true,75)]=true:=by kernel_rfl
theorem es8 :ec .any jW (pO 97 72606168395750659979231) [(true,76),(true,79),(true,80),(true,81),(true,82),(true,83),(true,84),(true,85)]=true:=by kernel_rfl
theorem es9 :ec .any jW (pO 97 76914953577650617577240543) [(true,86),(true,88),(true,89),(true,90),(true,91),(true,92),(false,5),(false,11)]=true:=by kernel_rfl
theorem amI :ec .any jW (pO 97 9748321510494684015226650623) [(false,17),(false,23),(false,29),(false,35),(false,45),(false,46),(false,56),(false,57)]=true:=by kernel_rfl
theorem amJ :ec .any jW (pO 97 9748321510710962385361829887) [(false,69),(false,71),(false,77),(false,78),(false,87),(false,93),(false,94),(true,95)]=true:=by kernel_rfl
theorem amK :ec .any jW (pO 97 79228162514264337593543950335) [(false,96)]=true:=by kernel_rfl
theorem ab6 :dJ .any jW (pO 97 0) [(true,0),(true,1),(true,2),(true,3),(true,4),(true,6),(true,7),(true,8),(true,9),(true,10),(true,12),(true,13),(true,14),(true,15),(true,16),(true,18),(true,19),(true,20),(true,21),(true,22),(true,24),(true,25),(true,26),(true,27),(true,28),(true,30),(true,31),(true,32),(true,33),(true,34),(true,36),(true,37),(true,38),(true,39),(true,40),(true,41),(true,42),(true,43),(true,44),(true,47),(true,48),(true,49),(true,50),(true,51),(true,52),(true,53),(true,54),(true,55),(true,58),(true,59),(true,60),(true,61),(true,62),(true,63),(true,64),(true,65),(true,66),(true,67),(true,68),(true,70),(true,72),(true,73),(true,74),(true,75),(true,76),(true,79),(true,80),(true,81),(true,82),(true,83),(true,84),(true,85),(true,86),(true,88),(true,89),(true,90),(true,91),(true,92),(false,5),(false,11),(false,17),(false,23),(false,29),(false,35),(false,45),(false,46),(false,56),(false,57),(false,69),(false,71),(false,77),(false,78),(false,87),(false,93),(false,94),(true,95),(false,96)]=true:=
 show dJ .any jW (pO 97 0) ([(true,0),(true,1),(true,2),(true,3),(true,4),(true,6),(true,7),(true,8)]++([(true,9),(true,10),(true,12),(true,13),(true,14),(true,15),(true,16),(true,18)]++([(true,19),(true,20),(true,21),(true,22),(true,24),(true,25),(true,26),(true,27)]++([(true,28),(true,30),(true,31),(true,32),(true,33),(true,34),(true,36),(true,37)]++([(true,38),(true,39),(true,40),(true,41),(true,42),(true,43),(true,44),(true,47)]++([(true,48),(true,49),(true,50),(true,51),(true,52),(true,53),(true,54),(true,55)]++([(true,58),(true,59),(true,60),(true,61),(true,62),(true,63),(true,64),(true,65)]++([(true,66),(true,67),(true,68),(true,70),(true,72),(true,73),(true,74),(true,75)]++([(true,76),(true,79),(true,80),(true,81),(true,82),(true,83),(true,84),(true,85)]++([(true,86),(true,88),(true,89),(true,90),(true,91),(true,92),(false,5),(false,11)]++([(false,17),(false,23),(false,29),(false,35),(false,45),(false,46),(false,56),(false,57)]++([(false,69),(false,71),(false,77),(false,78),(false,87),(false,93),(false,94),(true,95)]++([(false,96)]++ [])))))))))))))=true from(ec.app es0 (L':=pO 97 479) (by kernel_rfl) (ec.app es1 (L':=pO 97 391135) (by kernel_rfl) (ec.app es2 (L':=pO 97 259913695) (by kernel_rfl) (ec.app es3 (L':=pO 97 239972775903) (by kernel_rfl) (ec.app es4 (L':=pO 97 175886955313119) (by kernel_rfl) (ec.app es5 (L':=pO 97 71952006016530399) (by kernel_rfl) (ec.app es6 (L':=pO 97 73570697924703025119) (by kernel_rfl) (ec.app es7 (L':=pO 97 72606168395750659979231) (by kernel_rfl) (ec.app es8 (L':=pO 97 76914953577650617577240543) (by kernel_rfl) (ec.app es9 (L':=pO 97 9748321510494684015226650623) (by kernel_rfl) (ec.app amI (L':=pO 97 9748321510710962385361829887) (by kernel_rfl) (ec.app amJ (L':=pO 97 79228162514264337593543950335) (by kernel_rfl) (ec.app amK (L':=pO 97 158456325028528675187087900671) (by kernel_rfl) (by kernel_rfl))))))))))))))
theorem ab7 {x:Ct}{gA gD:Int}{b0 b1:Bh}{j:FH}{t gw fX iJ iK g5 jb jN jy jX jY ie jc jd kD om iM:Nat}{qv qa qu qp ql qd qi qj qq qn qm:Rat}{sv tv sa ta su tu sp tp sl tl sd td sq tq sn tn sm tm sr tr se te sf tf sg tg Zr Zs sh th sw tw:Bool}{Av Bv Aa Ba Au Bu Ap Bp Al Bl Ad Bd Aq Bq An Bn Am Bm Ar Br Ae Be Af Bf Ag Bg Zt Zu Ah Bh Aw Bw:Option Addr}{nv cv mv dv na ca ma da nu cu mu du np cp mp dp nl cl ml dl nd cd md dd nq cq mq dq nn cn mn dn nm cm mm dm nr cr mr dr ne me nf cf mf df ng cg mg dg Zv Zw nh mh nw cw mw dw:Nat}{w w0:World}{Q:Exit->Act->World->Prop}{a:Act}(hE:Env w (fun V=>(((((((((((((((((((((((((((((((((((True/\au 125 (gw) (vp x t gA gD b0 b1 j) V)/\FV V qi b0.i.s b0.i.A b0.i.n b0.i.t b0.i.B b0.i.m)/\FV V qj j.s j.A j.n j.t j.B j.m)/\au 126 (w.heap.size) #[.bool false,.slice none 0 0,.bool false,.slice none 0 0,.bool false,.slice none 0 0,.bool false,.slice none 0 0,.bool false,.slice none 0 0,.bool false,.slice none 0 0,.bool false,.slice none 0 0,.bool false,.slice none 0 0,.bool false,.slice none 0 0,.bool false,.slice none 0 0,.bool false,.slice none 0 0,.bool false,.slice none 0 0,.bool false,.slice none 0 0,.bool false,.slice none 0 0,.bool false,.slice none 0 0,.bool false,.slice none 0 0,.bool false,.slice none 0 0,.bool false,.slice none 0 0,.bool false,.slice none 0 0,.bool false,.slice none 0 0] V)/\FV V qv sv Av nv tv Bv mv)/\au 29 (fX) (az sv Av nv cv tv Bv mv dv) V)/\FV V qa sa Aa na ta Ba ma)/\FV V qu su Au nu tu Bu mu)/\au 29 (iJ) (az sa Aa na ca ta Ba ma da) V)/\au 29 (iK) (az su Au nu cu tu Bu mu du) V)/\au 29 (g5) (az sp Ap np cp tp Bp mp dp) V)/\FV V qp sp Ap np tp Bp mp)/\FV V ql sl Al nl tl Bl ml)/\FV V qd sd Ad nd td Bd md)/\au 29 (jb) (az sl Al nl cl tl Bl ml dl) V)/\au 29 (jN) (az sd Ad nd cd td Bd md dd) V)/\FV V qq sq Aq nq tq Bq mq)/\au 29 (jy) (az b0.i.s b0.i.A b0.i.n b0.i.c b0.i.t b0.i.B b0.i.m b0.i.d) V)/\au 29 (jX) (az j.s j.A j.n j.c j.t j.B j.m j.d) V)/\au 29 (jY) (az sq Aq nq cq tq Bq mq dq) V)/\FV V qn sn An nn tn Bn mn)/\FV V qm sm Am nm tm Bm mm)/\FV V (qn-qm) sr Ar nr tr Br mr)/\au 29 (ie) (az sn An nn cn tn Bn mn dn) V)/\au 29 (jc) (az sm Am nm cm tm Bm mm dm) V)/\au 29 (jd) (az sr Ar nr cr tr Br mr dr) V)/\FV V (qv+qp) se Ae ne te Be me)/\FV V (qv+qp-ql) sf Af nf tf Bf mf)/\au 29 (kD) (az sf Af nf cf tf Bf mf df) V)/\FV V (qn*(qv+qp-ql)) sg Ag ng tg Bg mg)/\au 29 (om) (az sg Ag ng cg tg Bg mg dg) V)/\FV V ((1:Int):Rat) Zr Zt Zv Zs Zu Zw)/\FV V (((1:Int):Rat)+qi) sh Ah nh th Bh mh)/\FV V ((qv+qp-ql)*(1+qi)) sw Aw nw tw Bw mw)/\au 29 (iM) (az sw Aw nw cw tw Bw mw dw) V)) w0)(hL:ItL qv qa qu qp ql qd qi qj qq qn qm)(hqs:((gA-gD:Int):Rat)=qn-qm)(Cr:fl qn<=256/\fl qm<=256/\fl (qn-qm)<=256)
  (hk:Kn 255 a [(0,.pointer (some ⟨gw,0,none⟩)),(2,.pointer (some ⟨w.heap.size,0,none⟩)),(3,.pointer (some ⟨fX,0,none⟩)),(4,.pointer (some ⟨iJ,0,none⟩)),(5,.pointer (some ⟨iK,0,none⟩)),(6,.pointer (some ⟨g5,0,none⟩)),(7,.pointer (some ⟨jb,0,none⟩)),(8,.pointer (some ⟨jN,0,none⟩)),(9,.pointer (some ⟨jy,0,none⟩)),(10,.pointer (some ⟨jX,0,none⟩)),(11,.pointer (some ⟨jY,0,none⟩)),(12,.pointer (some ⟨ie,0,none⟩)),(13,.pointer (some ⟨jc,0,none⟩)),(14,.pointer (some ⟨jd,0,none⟩)),(16,.pointer (some ⟨om,0,none⟩)),(17,.pointer (some ⟨iM,0,none⟩))]) (xq:∀c a (t:Tmp) v w,Q (.panic c) (Act.put a (some t) v) w->Q (.panic c) a w) (hend:∀(a:Act) (U:World) (hh:Nat->FH),a.eval (.tmp 2)= .pointer (some ⟨w.heap.size,0,none⟩)->a.defers=[]->au 126 w.heap.size (xp hh).toArray U->(∀k,k<10->FV U (Zx qv qa qu qp ql qd qi qj qq qn qm k) (hh k).s (hh k).A (hh k).n (hh k).t (hh k).B (hh k).m)->Below w.heap.size w U->Q .normal a U):Code.wp Tryz.prog Zq Q a w0:=by
 have qJ:∀w,(Instr.fieldAt 125 (.pointer (some ⟨gw,0,none⟩)) 0).run Tryz.prog w= .ok (.pointer (some ⟨gw,0,none⟩)) w:=fun w=>by first|kernel_rfl|(go_simp;done)|(go_simp;rfl)
 have hQ9:=af hqs;have je:=af hL;clear hqs hL
 conv=>arg 2;whnf
 replace hE:=hE.drew
 refine Oz (S:=fun V=>au 125 (gw) (vp x t gA gD b0 b1 j) V/\au 29 (om) (az sg Ag ng cg tg Bg mg dg) V/\au 29 (iJ) (az sa Aa na ca ta Ba ma da) V/\au 29 (jN) (az sd Ad nd cd td Bd md dd) V/\au 29 (jy) (az b0.i.s b0.i.A b0.i.n b0.i.c b0.i.t b0.i.B b0.i.m b0.i.d) V/\au 29 (jX) (az j.s j.A j.n j.c j.t j.B j.m j.d) V/\au 29 (jb) (az sl Al nl cl tl Bl ml dl) V/\au 29 (jc) (az sm Am nm cm tm Bm mm dm) V/\au 29 (ie) (az sn An nn cn tn Bn mn dn) V/\au 29 (g5) (az sp Ap np cp tp Bp mp dp) V/\au 29 (jY) (az sq Aq nq cq tq Bq mq dq) V/\au 29 (jd) (az sr Ar nr cr tr Br mr dr) V/\au 29 (iK) (az su Au nu cu tu Bu mu du) V/\au 29 (fX) (az sv Av nv cv tv Bv mv dv) V/\au 29 (iM) (az sw Aw nw cw tw Bw mw dw) V) (n:=97) [(true,0),(true,1),(true,2),(true,3),(true,4),(true,6),(true,7),(true,8),(true,9),(true,10),(true,12),(true,13),(true,14),(true,15),(true,16),(true,18),(true,19),(true,20),(true,21),(true,22),(true,24),(true,25),(true,26),(true,27),(true,28),(true,30),(true,31),(true,32),(true,33),(true,34),(true,36),(true,37),(true,38),(true,39),(true,40),(true,41),(true,42),(true,43),(true,44),(true,47),(true,48),(true,49),(true,50),(true,51),(true,52),(true,53),(true,54),(true,55),(true,58),(true,59),(true,60),(true,61),(true,62),(true,63),(true,64),(true,65),(true,66),(true,67),(true,68),(true,70),(true,72),(true,73),(true,74),(true,75),(true,76),(true,79),(true,80),(true,81),(true,82),(true,83),(true,84),(true,85),(true,86),(true,88),(true,89),(true,90),(true,91),(true,92),(false,5),(false,11),(false,17),(false,23),(false,29),(false,35),(false,45),(false,46),(false,56),(false,57),(false,69),(false,71),(false,77),(false,78),(false,87),(false,93),(false,94),(true,95),(false,96)] (by kernel_rfl) (⟨hE.AB.1.1.2,hE.h4,hE.uM.1.1.2,hE.g19,hE.g17,hE.g16,hE.g20,hE.h10,hE.h11,hE.g24,hE.g15,hE.h9,hE.iC,hE.uM.1.1.1.1.1.2,hE.g0⟩) rfl ab6 (by kernel_rfl) xq (fun _ _ hb ⟨h0,h1,h2,h3,h4,h5,h6,h7,h8,h9,h10,h11,h12,dN,h14⟩=>⟨au.stable _ _ _ _ _ hb h0,au.stable _ _ _ _ _ hb h1,au.stable _ _ _ _ _ hb h2,au.stable _ _ _ _ _ hb h3,au.stable _ _ _ _ _ hb h4,au.stable _ _ _ _ _ hb h5,au.stable _ _ _ _ _ hb h6,au.stable _ _ _ _ _ hb h7,au.stable _ _ _ _ _ hb h8,au.stable _ _ _ _ _ hb h9,au.stable _ _ _ _ _ hb h10,au.stable _ _ _ _ _ hb h11,au.stable _ _ _ _ _ hb h12,au.stable _ _ _ _ _ hb dN,au.stable _ _ _ _ _ hb h14⟩) ?_
 intro hq hp hHeld CR
 generalize w0.drew=wd at*
 refine jz hq hk hp hHeld rfl rfl rfl rfl rfl (fun a hk hp=> ?_);refine jA hq hk hp hHeld rfl rfl rfl rfl rfl (fun a hk hp=> ?_);refine jB qJ hq hk hp hHeld rfl rfl rfl rfl rfl (fun a hk hp=> ?_);refine fj (fun _ h=>h.2.2.2.2.2.2.2.2.1) hq hk hp hHeld rfl rfl rfl rfl rfl (fun a hk hp=> ?_);refine fj (fun _ h=>h.2.2.2.2.2.2.2.2.2.2.2.2.2.1) hq hk hp hHeld rfl rfl rfl rfl rfl (fun a hk hp=> ?_);refine jz hq hk hp hHeld rfl rfl rfl rfl rfl (fun a hk hp=> ?_);refine jA hq hk hp hHeld rfl rfl rfl rfl rfl (fun a hk hp=> ?_);refine jB qJ hq hk hp hHeld rfl rfl rfl rfl rfl (fun a hk hp=> ?_);refine fj (fun _ h=>h.2.2.2.2.2.2.2.2.1) hq hk hp hHeld rfl rfl rfl rfl rfl (fun a hk hp=> ?_);refine fj (fun _ h=>h.2.2.2.2.2.2.2.2.2.1) hq hk hp hHeld rfl rfl rfl rfl rfl (fun a hk hp=> ?_);refine jz hq hk hp hHeld rfl rfl rfl rfl rfl (fun a hk hp=> ?_);refine jA hq hk hp hHeld rfl rfl rfl rfl rfl (fun a hk hp=> ?_);refine jB qJ hq hk hp hHeld rfl rfl rfl rfl rfl (fun a hk hp=> ?_);refine fj (fun _ h=>h.2.2.2.2.2.2.2.2.1) hq hk hp hHeld rfl rfl rfl rfl rfl (fun a hk hp=> ?_);refine fj (fun _ h=>h.2.2.2.2.2.2.1) hq hk hp hHeld rfl rfl rfl rfl rfl (fun a hk hp=> ?_);refine jz hq hk hp hHeld rfl rfl rfl rfl rfl (fun a hk hp=> ?_);refine jA hq hk hp hHeld rfl rfl rfl rfl rfl (fun a hk hp=> ?_);refine jB qJ hq hk hp hHeld rfl rfl rfl rfl rfl (fun a hk hp=> ?_);refine fj (fun _ h=>h.2.1) hq hk hp hHeld rfl rfl rfl rfl rfl (fun a hk hp=> ?_);refine fj (fun _ h=>h.2.2.2.2.2.1) hq hk hp hHeld rfl rfl rfl rfl rfl (fun a hk hp=> ?_);refine jz hq hk hp hHeld rfl rfl rfl rfl rfl (fun a hk hp=> ?_);refine jA hq hk hp hHeld rfl rfl rfl rfl rfl (fun a hk hp=> ?_);refine jB qJ hq hk hp hHeld rfl rfl rfl rfl rfl (fun a hk hp=> ?_);refine fj (fun _ h=>h.2.2.2.2.2.2.2.1) hq hk hp hHeld rfl rfl rfl rfl rfl (fun a hk hp=> ?_);refine fj (fun _ h=>h.2.2.2.1) hq hk hp hHeld rfl rfl rfl rfl rfl (fun a hk hp=> ?_);refine jz hq hk hp hHeld rfl rfl rfl rfl rfl (fun a hk hp=> ?_);refine jA hq hk hp hHeld rfl rfl rfl rfl rfl (fun a hk hp=> ?_);refine jB qJ hq hk hp hHeld rfl rfl rfl rfl rfl (fun a hk hp=> ?_);refine fj (fun _ h=>h.2.2.2.2.2.2.2.2.2.2.2.1) hq hk hp hHeld rfl rfl rfl rfl rfl (fun a hk hp=> ?_);refine fj (fun _ h=>h.2.2.2.2.2.2.2.2.2.2.2.2.1) hq hk hp hHeld rfl rfl rfl rfl rfl (fun a hk hp=> ?_);refine jz hq hk hp hHeld rfl rfl rfl rfl rfl (fun a hk hp=> ?_);refine jA hq hk hp hHeld rfl rfl rfl rfl rfl (fun a hk hp=> ?_);refine jB qJ hq hk hp hHeld rfl rfl rfl rfl rfl (fun a hk hp=> ?_);refine fj (fun _ h=>h.2.2.2.2.2.2.2.2.1) hq hk hp hHeld rfl rfl rfl rfl rfl (fun a hk hp=> ?_);refine jz hq hk hp hHeld rfl rfl rfl rfl rfl (fun a hk hp=> ?_);refine jA hq hk hp hHeld rfl rfl rfl rfl rfl (fun a hk hp=> ?_);refine jB qJ hq hk hp hHeld rfl rfl rfl rfl rfl (fun a hk hp=> ?_)
 refine fj (fun _ h=>h.2.2.2.2.2.2.2.2.2.2.2.2.2.2) hq hk hp hHeld rfl rfl rfl rfl rfl (fun a hk hp=> ?_);refine fj (fun _ h=>h.2.2.2.2.2.2.2.2.2.2.2.2.2.1) hq hk hp hHeld rfl rfl rfl rfl rfl (fun a hk hp=> ?_);refine jz hq hk hp hHeld rfl rfl rfl rfl rfl (fun a hk hp=> ?_);refine jA hq hk hp hHeld rfl rfl rfl rfl rfl (fun a hk hp=> ?_);refine jB qJ hq hk hp hHeld rfl rfl rfl rfl rfl (fun a hk hp=> ?_);refine fj (fun _ h=>h.2.1) hq hk hp hHeld rfl rfl rfl rfl rfl (fun a hk hp=> ?_);refine jz hq hk hp hHeld rfl rfl rfl rfl rfl (fun a hk hp=> ?_);refine jA hq hk hp hHeld rfl rfl rfl rfl rfl (fun a hk hp=> ?_);refine jB qJ hq hk hp hHeld rfl rfl rfl rfl rfl (fun a hk hp=> ?_);refine fj (fun _ h=>h.2.2.2.2.2.1) hq hk hp hHeld rfl rfl rfl rfl rfl (fun a hk hp=> ?_);refine fj (fun _ h=>h.2.2.2.2.1) hq hk hp hHeld rfl rfl rfl rfl rfl (fun a hk hp=> ?_);refine jz hq hk hp hHeld rfl rfl rfl rfl rfl (fun a hk hp=> ?_);refine jA hq hk hp hHeld rfl rfl rfl rfl rfl (fun a hk hp=> ?_);refine jB qJ hq hk hp hHeld rfl rfl rfl rfl rfl (fun a hk hp=> ?_);refine jz hq hk hp hHeld rfl rfl rfl rfl rfl (fun a hk hp=> ?_);refine jA hq hk hp hHeld rfl rfl rfl rfl rfl (fun a hk hp=> ?_);refine jB qJ hq hk hp hHeld rfl rfl rfl rfl rfl (fun a hk hp=> ?_);refine jz hq hk hp hHeld rfl rfl rfl rfl rfl (fun a hk hp=> ?_);refine jA hq hk hp hHeld rfl rfl rfl rfl rfl (fun a hk hp=> ?_);refine jB qJ hq hk hp hHeld rfl rfl rfl rfl rfl (fun a hk hp=> ?_);refine fj (fun _ h=>h.2.2.2.2.2.2.2.2.1) hq hk hp hHeld rfl rfl rfl rfl rfl (fun a hk hp=> ?_);refine fj (fun _ h=>h.2.2.2.2.2.2.2.2.2.2.1) hq hk hp hHeld rfl rfl rfl rfl rfl (fun a hk hp=> ?_);refine fj (fun _ h=>h.2.2.2.2.2.2.2.1) hq hk hp hHeld rfl rfl rfl rfl rfl (fun a hk hp=> ?_);refine jz hq hk hp hHeld rfl rfl rfl rfl rfl (fun a hk hp=> ?_);refine jA hq hk hp hHeld rfl rfl rfl rfl rfl (fun a hk hp=> ?_);refine jB qJ hq hk hp hHeld rfl rfl rfl rfl rfl (fun a hk hp=> ?_);refine fj (fun _ h=>h.2.2.2.1) hq hk hp hHeld rfl rfl rfl rfl rfl (fun a hk hp=> ?_);refine fj (fun _ h=>h.2.2.1) hq hk hp hHeld rfl rfl rfl rfl rfl (fun a hk hp=> ?_);refine jz hq hk hp hHeld rfl rfl rfl rfl rfl (fun a hk hp=> ?_);refine jA hq hk hp hHeld rfl rfl rfl rfl rfl (fun a hk hp=> ?_);refine jB qJ hq hk hp hHeld rfl rfl rfl rfl rfl (fun a hk hp=> ?_);refine jz hq hk hp hHeld rfl rfl rfl rfl rfl (fun a hk hp=> ?_);refine jA hq hk hp hHeld rfl rfl rfl rfl rfl (fun a hk hp=> ?_);refine jB qJ hq hk hp hHeld rfl rfl rfl rfl rfl (fun a hk hp=> ?_);refine fj (fun _ h=>h.2.2.2.2.2.2.2.2.2.2.2.1) hq hk hp hHeld rfl rfl rfl rfl rfl (fun a hk hp=> ?_);refine fj (fun _ h=>h.2.2.1) hq hk hp hHeld rfl rfl rfl rfl rfl (fun a hk hp=> ?_);refine jz hq hk hp hHeld rfl rfl rfl rfl rfl (fun a hk hp=> ?_);refine jA hq hk hp hHeld rfl rfl rfl rfl rfl (fun a hk hp=> ?_)
 refine jB qJ hq hk hp hHeld rfl rfl rfl rfl rfl (fun a hk hp=> ?_);refine fj (fun _ h=>h.2.2.2.2.2.2.2.2.2.2.2.1) hq hk hp hHeld rfl rfl rfl rfl rfl (fun a hk hp=> ?_);refine fj (fun _ h=>h.2.2.2.2.2.2.2.2.2.2.2.2.1) hq hk hp hHeld rfl rfl rfl rfl rfl (fun a hk hp=> ?_);refine eV Tryz.func141 (iH (ca:=cn) (da:=dn) (cb:=cv) (db:=dv) (dI (show au _ gw (pG x (t:Int) gA gD b0 b1 j) _ from hE.AB.1.1.2)) (hE.g14) (hE.kr) Cr.1 je.out.l1 (je.out.it 0)) hk hp rfl rfl rfl rfl rfl rfl rfl ?_;clear hk hp a;rintro e w22 ⟨sK5,AK5,nK5,cK5,tK5,BK5,mK5,dK5,rfl,hv,hb⟩;replace hE:=(hE.step hb).fv hv;clear hv;replace hHeld:=CR _ _ hb hHeld;clear hb;refine⟨_,rfl,hHeld,fun hHeld a hk hp=> ?_⟩;refine eV Tryz.func141 (iH (ca:=cn) (da:=dn) (cb:=cp) (db:=dp) (dI (show au _ gw (pG x (t:Int) gA gD b0 b1 j) _ from hE.AB.1.1.1.2)) (hE.g15) (hE.g24) Cr.1 je.out.l4 (je.out.it 1)) hk hp rfl rfl rfl rfl rfl rfl rfl ?_;clear hk hp a;rintro e w23 ⟨Ur,Us,Ut,Uu,Uv,Uw,Ux,Uy,rfl,hv,hb⟩;replace hE:=(hE.step hb).fv hv;clear hv;replace hHeld:=CR _ _ hb hHeld;clear hb;refine⟨_,rfl,hHeld,fun hHeld a hk hp=> ?_⟩;refine eV Tryz.func141 (iH (ca:=cn) (da:=dn) (cb:=cl) (db:=dl) (dI (show au _ gw (pG x (t:Int) gA gD b0 b1 j) _ from hE.AB.1.1.1.1.2)) (hE.g16) (hE.g24) Cr.1 je.out.l5 (je.out.it 2)) hk hp rfl rfl rfl rfl rfl rfl rfl ?_;clear hk hp a;rintro e OA ⟨Uz,UA,UB,UC,UD,UE,UF,UG,rfl,hv,hb⟩;replace hE:=(hE.step hb).fv hv;clear hv;replace hHeld:=CR _ _ hb hHeld;clear hb;refine⟨_,rfl,hHeld,fun hHeld a hk hp=> ?_⟩;refine eV Tryz.func141 (iH (ca:=cg) (da:=dg) (cb:=j.c) (db:=j.d) (dI (show au _ gw (pG x (t:Int) gA gD b0 b1 j) _ from hE.AB.1.1.1.1.1.2)) (hE.h8) (hE.AB.1.1.1.2) je.out.b3 je.out.l8 (je.out.it 3)) hk hp rfl rfl rfl rfl rfl rfl rfl ?_;clear hk hp a;rintro e w25 ⟨UH,UI,UJ,UK,UL,UM,UN,UO,rfl,hv,hb⟩;replace hE:=(hE.step hb).fv hv;clear hv;replace hHeld:=CR _ _ hb hHeld;clear hb;refine⟨_,rfl,hHeld,fun hHeld a hk hp=> ?_⟩
 refine eV Tryz.func141 (iH (ca:=cm) (da:=dm) (cb:=cd) (db:=dd) (dI (show au _ gw (pG x (t:Int) gA gD b0 b1 j) _ from hE.AB.1.1.1.1.1.1.2)) (hE.g17) (hE.iC) Cr.2.1 je.out.l6 (je.out.it 4)) hk hp rfl rfl rfl rfl rfl rfl rfl ?_;clear hk hp a;rintro e w26 ⟨UQ,UR,US,UT,UU,UW,UX,UY,rfl,hv,hb⟩;replace hE:=(hE.step hb).fv hv;clear hv;replace hHeld:=CR _ _ hb hHeld;clear hb;refine⟨_,rfl,hHeld,fun hHeld a hk hp=> ?_⟩;refine eV Tryz.func141 (iH (ca:=cr) (da:=dr) (cb:=cu) (db:=du) (dI (show au _ gw (pG x (t:Int) gA gD b0 b1 j) _ from hE.AB.1.1.1.1.1.1.1.2)) (hE.g17) (hE.AB.2) Cr.2.2 je.out.l3 (je.out.it 5)) hk hp rfl rfl rfl rfl rfl rfl rfl ?_;clear hk hp a;rintro e w27 ⟨UZ,Va,Vb,Vc,Vd,Ve,Vf,Vg,rfl,hv,hb⟩;replace hE:=(hE.step hb).fv hv;clear hv;replace hHeld:=CR _ _ hb hHeld;clear hb;refine⟨_,rfl,hHeld,fun hHeld a hk hp=> ?_⟩;refine eV Tryz.func97 (mD (ca:=cw) (da:=dw) (cb:=cv) (db:=dv) (dI (show au _ gw (pG x (t:Int) gA gD b0 b1 j) _ from hE.KP.2)) (hE.h7) (hE.AB.1.1.1.1.2) je.out.b5 je.out.l1 je.out.b6) hk hp rfl rfl rfl rfl rfl rfl rfl ?_;clear hk hp a;rintro e w28 ⟨arB,arC,arD,amL,arE,arF,arG,amM,rfl,hv,hb⟩;replace hE:=(hE.step hb).fv hv;clear hv;replace hHeld:=CR _ _ hb hHeld;clear hb;refine⟨_,rfl,hHeld,fun hHeld a hk hp=> ?_⟩;refine eV Tryz.func141 (iH (ca:=cn) (da:=dn) (cb:=amL) (db:=amM) (dI (show au _ gw (pG x (t:Int) gA gD b0 b1 j) _ from hE.KP.1.2)) (hE.g21) (hE.g0) Cr.1 je.out.b6 (je.out.it 6)) hk hp rfl rfl rfl rfl rfl rfl rfl ?_;clear hk hp a;rintro e MD ⟨Vh,Vi,Vj,Vk,Vl,Vm,Vp,Vq,rfl,hv,hb⟩;replace hE:=(hE.step hb).fv hv;clear hv;replace hHeld:=CR _ _ hb hHeld;clear hb;refine⟨_,rfl,hHeld,fun hHeld a hk hp=> ?_⟩
 refine eV Tryz.func97 (mD (ca:=j.c) (da:=j.d) (cb:=b0.i.c) (db:=b0.i.d) (dI (show au _ gw (pG x (t:Int) gA gD b0 b1 j) _ from hE.KP.1.1.2)) (hE.KP.2) (hE.KP.1.2) je.out.l8 je.out.l7 je.out.b7) hk hp rfl rfl rfl rfl rfl rfl rfl ?_;clear hk hp a;rintro e w30 ⟨arH,arI,arJ,amN,arK,arL,arM,amO,rfl,hv,hb⟩;replace hE:=(hE.step hb).fv hv;clear hv;replace hHeld:=CR _ _ hb hHeld;clear hb;refine⟨_,rfl,hHeld,fun hHeld a hk hp=> ?_⟩;refine eV Tryz.func141 (iH (ca:=cg) (da:=dg) (cb:=amN) (db:=amO) (dI (show au _ gw (pG x (t:Int) gA gD b0 b1 j) _ from hE.KP.1.1.1.2)) (hE.g14) (hE.g0) je.out.b3 je.out.b7 (je.out.it 7)) hk hp rfl rfl rfl rfl rfl rfl rfl ?_;clear hk hp a;rintro e w31 ⟨Vr,Vs,Vt,Vu,Vv,Vw,Vx,Vy,rfl,hv,hb⟩;replace hE:=(hE.step hb).fv hv;clear hv;replace hHeld:=CR _ _ hb hHeld;clear hb;refine⟨_,rfl,hHeld,fun hHeld a hk hp=> ?_⟩;refine eV Tryz.func141 (iH (ca:=cn) (da:=dn) (cb:=cq) (db:=dq) (dI (show au _ gw (pG x (t:Int) gA gD b0 b1 j) _ from hE.KP.1.1.1.1.2)) (hE.g24) (hE.nT) Cr.1 je.out.l9 je.out.b8) hk hp rfl rfl rfl rfl rfl rfl rfl ?_;clear hk hp a;rintro e w32 ⟨arN,arO,arP,amP,arQ,arR,arS,amQ,rfl,hv,hb⟩;replace hE:=(hE.step hb).fv hv;clear hv;replace hHeld:=CR _ _ hb hHeld;clear hb;refine⟨_,rfl,hHeld,fun hHeld a hk hp=> ?_⟩;refine eV Tryz.func97 (mD (ca:=amP) (da:=amQ) (cb:=cm) (db:=dm) (dI (show au _ gw (pG x (t:Int) gA gD b0 b1 j) _ from hE.KP.1.1.1.1.1.2)) (hE.g0) (hE.g24) je.out.b8 Cr.2.1 je.out.b9) hk hp rfl rfl rfl rfl rfl rfl rfl ?_;clear hk hp a;rintro e w33 ⟨arT,arU,arV,amR,arW,arX,arY,amS,rfl,hv,hb⟩;replace hE:=(hE.step hb).fv hv;clear hv;replace hHeld:=CR _ _ hb hHeld;clear hb;refine⟨_,rfl,hHeld,fun hHeld a hk hp=> ?_⟩
 refine eV Tryz.func97 (mD (ca:=cd) (da:=dd) (cb:=ca) (db:=da) (dI (show au _ gw (pG x (t:Int) gA gD b0 b1 j) _ from hE.KP.1.1.1.1.1.1.2)) (hE.AB.1.2) (hE.KP.2) je.out.l6 je.out.l2 je.out.c1) hk hp rfl rfl rfl rfl rfl rfl rfl ?_;clear hk hp a;rintro e CA ⟨arZ,ar0,ar1,amT,ar2,ar3,ar4,amU,rfl,hv,hb⟩;replace hE:=(hE.step hb).fv hv;clear hv;replace hHeld:=CR _ _ hb hHeld;clear hb;refine⟨_,rfl,hHeld,fun hHeld a hk hp=> ?_⟩;refine eV Tryz.func141 (iH (ca:=amR) (da:=amS) (cb:=amT) (db:=amU) (dI (show au _ gw (pG x (t:Int) gA gD b0 b1 j) _ from hE.KP.1.1.1.1.1.1.1.2)) (hE.g1) (hE.g0) je.out.b9 je.out.c1 (je.out.it 8)) hk hp rfl rfl rfl rfl rfl rfl rfl ?_;clear hk hp a;rintro e w35 ⟨Vz,VA,VB,VC,VD,VE,VF,VG,rfl,hv,hb⟩;replace hE:=(hE.step hb).fv hv;clear hv;replace hHeld:=CR _ _ hb hHeld;clear hb;refine⟨_,rfl,hHeld,fun hHeld a hk hp=> ?_⟩;refine eV Tryz.func141 (iH (ca:=cr) (da:=dr) (cb:=ca) (db:=da) (dI (show au _ gw (pG x (t:Int) gA gD b0 b1 j) _ from hE.IC)) (hE.uM.1.1.2) (hE.KP.1.1.2) Cr.2.2 je.out.l2 je.out.c2) hk hp rfl rfl rfl rfl rfl rfl rfl ?_;clear hk hp a;rintro e w36 ⟨ar5,ar6,ar7,amV,ar8,ar9,asa,amW,rfl,hv,hb⟩;replace hE:=(hE.step hb).fv hv;clear hv;replace hHeld:=CR _ _ hb hHeld;clear hb;refine⟨_,rfl,hHeld,fun hHeld a hk hp=> ?_⟩;refine eV Tryz.func141 (iH (ca:=cr) (da:=dr) (cb:=cu) (db:=du) (dI (show au _ gw (pG x (t:Int) gA gD b0 b1 j) _ from hE.e48.1.2)) (hE.uM.1.1.1.2) (hE.KP.1.1.2) Cr.2.2 je.out.l3 je.out.c3) hk hp rfl rfl rfl rfl rfl rfl rfl ?_;clear hk hp a;rintro e w37 ⟨asb,asc,asd,amX,ase,asf,asg,amY,rfl,hv,hb⟩;replace hE:=(hE.step hb).fv hv;clear hv;replace hHeld:=CR _ _ hb hHeld;clear hb;refine⟨_,rfl,hHeld,fun hHeld a hk hp=> ?_⟩
 refine eV Tryz.func97 (mD (ca:=amV) (da:=amW) (cb:=amX) (db:=amY) (dI (show au _ gw (pG x (t:Int) gA gD b0 b1 j) _ from hE.e48.1.1.2)) (hE.g1) (hE.g0) je.out.c2 je.out.c3 (je.out.it 9)) hk hp rfl rfl rfl rfl rfl rfl rfl ?_;clear hk hp a;rintro e w38 ⟨VH,VJ,VK,VL,VM,VN,VO,VP,rfl,hv,hb⟩;replace hE:=(hE.step hb).fv hv;clear hv;replace hHeld:=CR _ _ hb hHeld;clear hb;refine⟨_,rfl,hHeld,fun hHeld a hk hp=> ?_⟩
 obtain⟨hh,ME⟩:∃hh:Nat->FH,hh=amH (bU (qn*qv) sK5 AK5 nK5 cK5 tK5 BK5 mK5 dK5) (bU (qn*qp) Ur Us Ut Uu Uv Uw Ux Uy) (bU (qn*ql) Uz UA UB UC UD UE UF UG) (bU (qn*(qv+qp-ql)*qj) UH UI UJ UK UL UM UN UO) (bU (qm*qd) UQ UR US UT UU UW UX UY) (bU ((qn-qm)*qu) UZ Va Vb Vc Vd Ve Vf Vg) (bU (qn*((qv+qp-ql)*(1+qi)-qv)) Vh Vi Vj Vk Vl Vm Vp Vq) (bU (qn*(qv+qp-ql)*(qj-qi)) Vr Vs Vt Vu Vv Vw Vx Vy) (bU ((qn*qq-qm)*(qd-qa)) Vz VA VB VC VD VE VF VG) (bU ((qn-qm)*qa-(qn-qm)*qu) VH VJ VK VL VM VN VO VP):=⟨_,rfl⟩
 have hbd:∀w,(Instr.build 126 #[(0,.agg (az sK5 AK5 nK5 cK5 tK5 BK5 mK5 dK5)),(1,.agg (az Ur Us Ut Uu Uv Uw Ux Uy)),(2,.agg (az Uz UA UB UC UD UE UF UG)),(3,.agg (az UH UI UJ UK UL UM UN UO)),(4,.agg (az UQ UR US UT UU UW UX UY)),(5,.agg (az UZ Va Vb Vc Vd Ve Vf Vg)),(6,.agg (az Vh Vi Vj Vk Vl Vm Vp Vq)),(7,.agg (az Vr Vs Vt Vu Vv Vw Vx Vy)),(8,.agg (az Vz VA VB VC VD VE VF VG)),(9,.agg (az VH VJ VK VL VM VN VO VP))]).run Tryz.prog w= .ok (.agg (xp hh).toArray) w:=fun w=>by rw[ME];first|kernel_rfl|(go_simp;rfl)
 refine agN hbd hq hk hp hHeld rfl rfl rfl rfl (by simp only[List.map_toArray,List.map_cons,List.map_nil,show a.eval (.tmp 164)= .agg (az sK5 AK5 nK5 cK5 tK5 BK5 mK5 dK5) from hk.get rfl,show a.eval (.tmp 170)= .agg (az Ur Us Ut Uu Uv Uw Ux Uy) from hk.get rfl,show a.eval (.tmp 176)= .agg (az Uz UA UB UC UD UE UF UG) from hk.get rfl,show a.eval (.tmp 182)= .agg (az UH UI UJ UK UL UM UN UO) from hk.get rfl,show a.eval (.tmp 188)= .agg (az UQ UR US UT UU UW UX UY) from hk.get rfl,show a.eval (.tmp 194)= .agg (az UZ Va Vb Vc Vd Ve Vf Vg) from hk.get rfl,show a.eval (.tmp 205)= .agg (az Vh Vi Vj Vk Vl Vm Vp Vq) from hk.get rfl,show a.eval (.tmp 216)= .agg (az Vr Vs Vt Vu Vv Vw Vx Vy) from hk.get rfl,show a.eval (.tmp 237)= .agg (az Vz VA VB VC VD VE VF VG) from hk.get rfl,show a.eval (.tmp 253)= .agg (az VH VJ VK VL VM VN VO VP) from hk.get rfl]) (fun a hk hp=> ?_);have hst:=oK 126 (hE.IC) (xp hh) rfl (by kernel_rfl) (Oy hh);obtain⟨eE,vk⟩:=oo (hE.IC) (xp hh) rfl;have aM:=Go.Proofs.YtclbiihcbfnjmaaGreat.Below.aD hE.ax eE hE.ax.size (aq _);have r0:=FV.aD (hE.g16) (hE.IC) rfl eE;have r1:=FV.aD (hE.g15) (hE.IC) rfl eE;have r2:=FV.aD (hE.g14) (hE.IC) rfl eE;have r3:=FV.aD (hE.dN) (hE.IC) rfl eE;have r4:=FV.aD (hE.h12) (hE.IC) rfl eE;have r5:=FV.aD (hE.h11) (hE.IC) rfl eE;have r6:=FV.aD (hE.h9) (hE.IC) rfl eE;have r7:=FV.aD (hE.h7) (hE.IC) rfl eE;have r8:=FV.aD (hE.h3) (hE.IC) rfl eE
 have r9:=FV.aD (hE.g0) (hE.IC) rfl eE;have oL:=hE.IC;refine OB hst hk hp rfl rfl rfl rfl rfl rfl ⟨au.aD hHeld.1 eE (au.ne hHeld.1 oL (by decide)),au.aD hHeld.2.1 eE (au.ne hHeld.2.1 oL (by decide)),au.aD hHeld.2.2.1 eE (au.ne hHeld.2.2.1 oL (by decide)),au.aD hHeld.2.2.2.1 eE (au.ne hHeld.2.2.2.1 oL (by decide)),au.aD hHeld.2.2.2.2.1 eE (au.ne hHeld.2.2.2.2.1 oL (by decide)),au.aD hHeld.2.2.2.2.2.1 eE (au.ne hHeld.2.2.2.2.2.1 oL (by decide)),au.aD hHeld.2.2.2.2.2.2.1 eE (au.ne hHeld.2.2.2.2.2.2.1 oL (by decide)),au.aD hHeld.2.2.2.2.2.2.2.1 eE (au.ne hHeld.2.2.2.2.2.2.2.1 oL (by decide)),au.aD hHeld.2.2.2.2.2.2.2.2.1 eE (au.ne hHeld.2.2.2.2.2.2.2.2.1 oL (by decide)),au.aD hHeld.2.2.2.2.2.2.2.2.2.1 eE (au.ne hHeld.2.2.2.2.2.2.2.2.2.1 oL (by decide)),au.aD hHeld.2.2.2.2.2.2.2.2.2.2.1 eE (au.ne hHeld.2.2.2.2.2.2.2.2.2.2.1 oL (by decide)),au.aD hHeld.2.2.2.2.2.2.2.2.2.2.2.1 eE (au.ne hHeld.2.2.2.2.2.2.2.2.2.2.2.1 oL (by decide)),au.aD hHeld.2.2.2.2.2.2.2.2.2.2.2.2.1 eE (au.ne hHeld.2.2.2.2.2.2.2.2.2.2.2.2.1 oL (by decide)),au.aD hHeld.2.2.2.2.2.2.2.2.2.2.2.2.2.1 eE (au.ne hHeld.2.2.2.2.2.2.2.2.2.2.2.2.2.1 oL (by decide)),au.aD hHeld.2.2.2.2.2.2.2.2.2.2.2.2.2.2 eE (au.ne hHeld.2.2.2.2.2.2.2.2.2.2.2.2.2.2 oL (by decide))⟩ ?_
 have e0:hh 0=(bU (qn*qv) sK5 AK5 nK5 cK5 tK5 BK5 mK5 dK5):=by rw[ME];rfl
 have e1:hh 1=(bU (qn*qp) Ur Us Ut Uu Uv Uw Ux Uy):=by rw[ME];rfl
 have e2:hh 2=(bU (qn*ql) Uz UA UB UC UD UE UF UG):=by rw[ME];rfl
 have e3:hh 3=(bU (qn*(qv+qp-ql)*qj) UH UI UJ UK UL UM UN UO):=by rw[ME];rfl
 have e4:hh 4=(bU (qm*qd) UQ UR US UT UU UW UX UY):=by rw[ME];rfl
 have e5:hh 5=(bU ((qn-qm)*qu) UZ Va Vb Vc Vd Ve Vf Vg):=by rw[ME];rfl
 have e6:hh 6=(bU (qn*((qv+qp-ql)*(1+qi)-qv)) Vh Vi Vj Vk Vl Vm Vp Vq):=by rw[ME];rfl
 have e7:hh 7=(bU (qn*(qv+qp-ql)*(qj-qi)) Vr Vs Vt Vu Vv Vw Vx Vy):=by rw[ME];rfl
 have e8:hh 8=(bU ((qn*qq-qm)*(qd-qa)) Vz VA VB VC VD VE VF VG):=by rw[ME];rfl
 have e9:hh 9=(bU ((qn-qm)*qa-(qn-qm)*qu) VH VJ VK VL VM VN VO VP):=by rw[ME];rfl
 clear ME;refine hend _ _ hh (hk.get rfl) hk.2.1 vk (fun k hk=> ?_) aM
 rcases k with _|_|_|_|_|_|_|_|_|_|k
 ·show FV _ _ (hh 0).s (hh 0).A (hh 0).n (hh 0).t (hh 0).B (hh 0).m;rw[e0];exact r0
 ·show FV _ _ (hh 1).s (hh 1).A (hh 1).n (hh 1).t (hh 1).B (hh 1).m;rw[e1];exact r1
 ·show FV _ _ (hh 2).s (hh 2).A (hh 2).n (hh 2).t (hh 2).B (hh 2).m;rw[e2];exact r2
 ·show FV _ _ (hh 3).s (hh 3).A (hh 3).n (hh 3).t (hh 3).B (hh 3).m;rw[e3];exact r3
 ·show FV _ _ (hh 4).s (hh 4).A (hh 4).n (hh 4).t (hh 4).B (hh 4).m;rw[e4];exact r4
 ·show FV _ _ (hh 5).s (hh 5).A (hh 5).n (hh 5).t (hh 5).B (hh 5).m;rw[e5];exact r5
 ·show FV _ _ (hh 6).s (hh 6).A (hh 6).n (hh 6).t (hh 6).B (hh 6).m;rw[e6];exact r6
 ·show FV _ _ (hh 7).s (hh 7).A (hh 7).n (hh 7).t (hh 7).B (hh 7).m;rw[e7];exact r7
 ·show FV _ _ (hh 8).s (hh 8).A (hh 8).n (hh 8).t (hh 8).B (hh 8).m;rw[e8];exact r8
 ·show FV _ _ (hh 9).s (hh 9).A (hh 9).n (hh 9).t (hh 9).B (hh 9).m;rw[e9];exact r9
 ·exact absurd hk (by omega)
theorem AD {z:Int}(h1:-1099511627776<=z)(h2:z<=1099511627776):fl ((z:Int):Rat)<=256:=by
 have h:=Sz.int z (M:=ai^3) (by
  have:ai^3=281474976710656:=by decide
  omega)
 exact ay (h.fl (k:=3) (j:=0) (by decide) (by decide) (aq _) (by decide)) (by decide)
theorem VQ {x:Ct}{gw:Nat}{gA gD:Int}{b0 b1:Bh}{j:FH}{t u:Nat}{qv qa qu qp ql qd qi qj qq qn qm:Rat}{w:World}(TJ:b0.val x (b0.cnt x) t=qv)(hqa:b0.val x (b0.cnt x) u=qa)(hqu:b1.val x (b1.cnt x) u=qu)(hqp:pH x.T.toNat x.p.q t=qp)(hql:lY x.l x.n t=ql)(hqd:lY x.k x.m t=qd)(hqi:b0.i.q=qi)(hqj:j.q=qj)(hqq:b0.rt x.E x.Y t=qq)(FQ:((gA:Int):Rat)=qn)(hqm:((gD:Int):Rat)=qm)(hu:u=t+1)(hb:b0.rd w)(hd:b1.rd w)(hx:x.rd w)(hj:j.rd w)(nS:b0.bd)(hdb:b1.bd)(jw:x.bd)(hS:KQ b0 b1 ⟨x,(t:Int),gA,gD⟩)(hJ:VS j)(hW:au 125 gw (pG x (t:Int) gA gD b0 b1 j) w)(hL:ItL qv qa qu qp ql qd qi qj qq qn qm):
  Calls Tryz.prog 96 #[.pointer (some ⟨gw,0,none⟩)] w (agM (Zx qv qa qu qp ql qd qi qj qq qn qm) w):=by
 have xo:au 125 gw (vp x t gA gD b0 b1 j) w:=hW;have vg:=xo.lt;have HhW:=af xo;clear xo hW;have hc0:b0.cnt x<=11/\lT b0.v (b0.rt x.E x.Y) (b0.cnt x):=hS.c0;have qM:b1.cnt x<=11/\lT b1.v (b1.rt x.E x.Y) (b1.cnt x):=hS.c1;have ux:x.ok b0:=hS.ok.1.1;have KR:x.ok b1:=hS.ok.1.2;have ht:t<b0.cnt x:=hS.t0 hb;have hpr:=(Ct.Ge hx ux).1;have hI:=(Bh.fv hb ux.1).1;have hJf:=(hJ.fv hj).1;rw[hqi] at hI;rw[hqj] at hJf
 have iZ:∀k,k<x.n->-9223372036854775808<=x.l k/\x.l k<=9223372036854775807:=fun k hk=>by have:=ux.2.2.2.2.1.2 k hk;omega
 have vt:∀k,k<x.m->-9223372036854775808<=x.k k/\x.k k<=9223372036854775807:=fun k hk=>by have:=ux.2.2.2.2.2.2 k hk;omega
 have hnn:=hS.ok.2.2.1;have vu:(0:Int)<=gA/\gA<=1099511627776/\0<=gD/\gD<=gA:=hnn;clear hnn
 have o1:IntKind.i64.wrap ((t:Int)+1)=(u:Int):=by rw[cL];have:=hc0.1;omega
 have o2:IntKind.i64.wrap (gA-gD)=gA-gD:=by rw[cL];omega
 have hqs:((gA-gD:Int):Rat)=qn-qm:=by rw[Rat.intCast_sub,FQ,hqm]
 have ash:=hc0.1;have asi:=qM.1
 have OC:u<=9223372036854775807:=by omega
 have ab8:t<=9223372036854775807:=by omega
 have hT:pH x.T.toNat x.p.q t=if(t:Int)<x.T then x.p.q else 0:=by unfold pH;have:=ux.2.2.1.1;rcases Classical.em ((t:Int)<x.T) with h|h;(rw[if_pos h,if_pos (by omega)]);(rw[if_neg h,if_neg (by omega)])
 have agO:(t:Int)<x.T->x.p.q=qp:=fun h=>by rw[<-hqp,hT,if_pos h]
 have agP:¬(t:Int)<x.T->((0:Int):Rat)=qp:=fun h=>by rw[<-hqp,hT,if_neg h];rfl
 clear hT;have uN:b0.right x.E (x.Y+(t:Int)):=KT ux hc0.2 hc0.1 hS.n0 ht;have hti:=nS.1
 have amZ:-9223372036854775808<=x.Y+(t:Int)/\x.Y+(t:Int)<=9223372036854775807:=by have:0<=x.Y+(t:Int)/\x.Y+(t:Int)<=300:=uN.2.2.2;omega
 have CS:=af ux;clear ux;have ID:=af KR;clear KR;have kX:=af hb;clear hb;have Hhd:=af hd;clear hd;have og:=af hx;clear hx;have Hhj:=af hj;clear hj;have iy:=af nS;clear nS;have VT:=af hdb;clear hdb;have iI:=af jw;clear jw;have HhS:=af hS;clear hS;have HhJ:=af hJ;clear hJ;have je:=af hL;clear hL;have ab9:=af TJ;clear TJ;have am0:=af hqa;clear hqa;have am1:=af hqu;clear hqu;have asj:=af hqp;clear hqp;have am2:=af hql;clear hql;have am3:=af hqd;clear hqd;have asl:=af hqi;clear hqi;have asm:=af hqj;clear hqj;have am4:=af hqq;clear hqq;have agQ:=af FQ;clear FQ;have agR:=af hqm;clear hqm;have Hhu:=af hu;clear hu;have agS:=af hc0;clear hc0;have OD:=af qM;clear qM;have am5:=af hpr;clear hpr;have HhI:=af hI;clear hI;have am6:=af hJf;clear hJf;have am7:=af iZ;clear iZ;have OE:=af vt;clear vt;have acd:=af hqs;clear hqs;have agT:=af agO;clear agO;have agU:=af agP;clear agP;have am8:=af uN;clear uN;have am9:=af hti;clear hti;have hE:=(((((Env.start w).ag HhW.out).fv HhI.out).fv am6.out).blk 126 #[.bool false,.slice none 0 0,.bool false,.slice none 0 0,.bool false,.slice none 0 0,.bool false,.slice none 0 0,.bool false,.slice none 0 0,.bool false,.slice none 0 0,.bool false,.slice none 0 0,.bool false,.slice none 0 0,.bool false,.slice none 0 0,.bool false,.slice none 0 0,.bool false,.slice none 0 0,.bool false,.slice none 0 0,.bool false,.slice none 0 0,.bool false,.slice none 0 0,.bool false,.slice none 0 0,.bool false,.slice none 0 0,.bool false,.slice none 0 0,.bool false,.slice none 0 0,.bool false,.slice none 0 0,.bool false,.slice none 0 0] (g:=w.heap.size) rfl)
 obtain⟨W0,aC⟩:∃W0,W0=w.alloc (.cells #[.bool false,.slice none 0 0,.bool false,.slice none 0 0,.bool false,.slice none 0 0,.bool false,.slice none 0 0,.bool false,.slice none 0 0,.bool false,.slice none 0 0,.bool false,.slice none 0 0,.bool false,.slice none 0 0,.bool false,.slice none 0 0,.bool false,.slice none 0 0,.bool false,.slice none 0 0,.bool false,.slice none 0 0,.bool false,.slice none 0 0,.bool false,.slice none 0 0,.bool false,.slice none 0 0,.bool false,.slice none 0 0,.bool false,.slice none 0 0,.bool false,.slice none 0 0,.bool false,.slice none 0 0,.bool false,.slice none 0 0] 126):=⟨_,rfl⟩
 rw[<-aC] at hE;have aZ:=af aC;clear aC
 go_enter Tryz.func96,Tryz.ntmps96
 go_upto_region 1 with(fail)
 rw[<-aZ.out];replace hE:=hE.drew;refine bH (S:=fun V=>au 125 (gw) (vp x t gA gD b0 b1 j) V) (by kernel_rfl) (hE.h3) (fun hHeld=> ?_)
 generalize W0.drew=wd at*
 refine tk 0 ?_;refine tk 1 ?_;refine tk 2 ?_;refine tk 3 ?_
 refine tk 4 ?_ (hy:=by
  intro w aG;have agJ:=(aG).cell 13;have agK:=(aG).cell 14;have agL:=(aG).cell 15;have agV:=(aG).cell 16;have agW:=(aG).cell 17;have agX:=(aG).cell 18;have agY:=(aG).cell 19;clear aG
  first|(go_simp;done)|(go_simp;with_reducible rfl))
 try simp only[PL]
 refine tk 5 ?_;refine tk 6 ?_;refine tk 7 ?_;refine tk 8 ?_
 refine tk 9 ?_ (hy:=by
  intro w aG;have KO:=(aG).cell 10;clear aG
  first|(go_simp;done)|(go_simp;with_reducible rfl))
 try simp only[PL]
 obtain⟨B1,Zy⟩:∃B,B=wd.heap.size:=⟨_,rfl⟩
 have hw1:w.heap.size<=B1:=by rw[Zy];exact hE.ax.size
 have agZ:gw<B1:=by rw[Zy];exact(hE.h3).lt
 have ag0:w.heap.size<B1:=by rw[Zy];exact(hE.g0).lt
 refine fR (I:=ep w _ _ B1 [⟨10,28,ku qv⟩,⟨11,3,kU 29 aW B1⟩]) [10,11] (f1:=1) (by kernel_rfl) (by kernel_rfl) (by kernel_rfl) rfl (by kernel_rfl) (by kernel_rfl) (by rfl) (ep.start hE Zy (by kernel_rfl)) ?Gf ?ana
 case Gf=>
  have hst:∀g∈([⟨10,28,ku qv⟩,⟨11,3,kU 29 aW B1⟩]:List cO),∀x,ck (g.R x):=(fun g hg=>by simp only[List.mem_cons,List.not_mem_nil,or_false] at hg;rcases hg with rfl|rfl<;>first|exact ku.stable _|exact kU.stable _ _ _|exact OG.stable _|exact OH.stable _)
  clear hE hHeld Zy;refine bf.cons (ds:=[0,4,9]) rfl (by kernel_rfl) (fun D a W0 hI hD K hK=> ?_) ?_
  ·
   have hE:=hI.here;obtain⟨xs,rfl,-,hF,-,-⟩:=id hI;obtain⟨Zz,xs,rfl,IE,hF⟩:=hF.av;obtain⟨ZA,xs,rfl,IF,hF⟩:=hF.av;obtain rfl:=hF.nil;clear hF;try simp only[ct,Act.put,List.setIfInBounds_toArray,List.set_cons_zero,List.set_cons_succ,List.getElem_toArray,List.getElem_cons_succ,List.getElem_cons_zero]
   go_simp;refine(gG ab9.out (pW (b:=b0) (Bh.aN kX.out hE.ax) iy.out (Ct.aN og.out hE.ax) iI.out CS.out (b0.cnt x) agS.out.2 (by omega) (show au _ gw (pG x (t:Int) gA gD b0 b1 j) _ from hE.h3) t ab8)).mono ?_
   rintro e W1 ⟨sv,Av,nv,cv,tv,Bv,mv,dv,rfl,hv,hb⟩
   have dD:=hE.step hb;go_wp2_with fail
   refine hK.out _ _ (dD.here.1.1.1.2) ?_;exact hI.call (c:=cv) (d:=dv) 0 hst rfl (by kernel_rfl) (by kernel_rfl) (by kernel_rfl) hb hv
  refine bf.cons (ds:=[]) rfl (by kernel_rfl) (fun D a W0 hI hD K hK=> ?_) ?_
  ·
   have hE:=hI.here;obtain⟨xs,rfl,-,hF,-,-⟩:=id hI;obtain⟨Zz,xs,rfl,IE,hF⟩:=hF.av;obtain⟨ZA,xs,rfl,IF,hF⟩:=hF.av;obtain rfl:=hF.nil;clear hF;try simp only[ct,Act.put,List.setIfInBounds_toArray,List.set_cons_zero,List.set_cons_succ,List.getElem_toArray,List.getElem_cons_succ,List.getElem_cons_zero]
   go_simp;have dD:=hE.alloc (.cells aW 29);refine hK.out _ _ (dD.here.1.1.1.2) ?_;exact hI.alloc 1 hst rfl (by kernel_rfl) (by kernel_rfl) (by kernel_rfl)
  exact bf.nil
 clear hE hHeld Zy;intro D a W1 hI hD;have hE:=hI.here;obtain⟨xs,rfl,-,hF,hA,-⟩:=id hI;clear hI;obtain⟨Zz,xs,rfl,IE,hF⟩:=hF.av;obtain⟨ZA,xs,rfl,IF,hF⟩:=hF.av;obtain rfl:=hF.nil;clear hF;obtain⟨sv,Av,nv,cv,tv,Bv,mv,dv,rfl,vv⟩:=IE (hD 10 (by simp));obtain⟨fX,rfl,ace,kY⟩:=IF (hD 11 (by simp));replace hE:=((hE.fv vv).ag kY);clear hA hD vv IE kY IF;try simp only[ct,Act.put,List.setIfInBounds_toArray,List.set_cons_zero,List.set_cons_succ,List.getElem_toArray,List.getElem_cons_succ,List.getElem_cons_zero]
 have hHeld:(fun V=>au 125 (gw) (vp x t gA gD b0 b1 j) V) W1:=hE.h5;refine r1 12 (fun K hK=> ?_)
 have ag1:w.heap.size<=fX:=by omega
 obtain⟨anb,anc,ane,anf⟩:=(hE.g0).c4;obtain⟨ang,anh,ani,anj⟩:=hE.g0.f4;replace hE:=(((((((Env.again (bW hE.ax ag1 (.bool sv) (.slice Av nv cv) (.bool tv) (.slice Bv mv dv))).ag ((hE.h5).aj (by omega) _ _ _ _)).fv ((hE.h4).ak hE.g0 rfl _ _ _ _ rfl rfl rfl)).fv ((hE.h3).ak hE.g0 rfl _ _ _ _ rfl rfl rfl)).ag ((hE.h2).aj (by omega) _ _ _ _)).fv ((hE.g1).ak hE.g0 rfl _ _ _ _ rfl rfl rfl)).ag ((hE.g0).s4 _ _ _ _));go_simp;clear anb anc ane anf ang anh ani anj ag1;generalize ((((W1.setCell ⟨fX,0,none⟩ (.bool sv)).setCell ⟨fX,1,none⟩ (.slice Av nv cv)).setCell ⟨fX,2,none⟩ (.bool tv)).setCell ⟨fX,3,none⟩ (.slice Bv mv dv))=W1 at hE⊢;refine hK.out _ _ (hE.h5) (fun hHeld=> ?_);clear hK K;try simp only[PL]
 refine aX (by kernel_rfl) ?_ _
 go_upto_region 2 with(fail)
 clear hw1 agZ ag0 ace;replace hE:=hE.drew;refine bH (S:=fun V=>au 125 (gw) (vp x t gA gD b0 b1 j) V) (by kernel_rfl) (hE.h5) (fun hHeld=> ?_)
 generalize W1.drew=wd at*
 refine tk 0 ?_;refine tk 1 ?_;refine tk 2 ?_;refine tk 3 ?_
 refine tk 4 ?_ (hy:=by
  intro w aG;have agJ:=(aG).cell 13;have agK:=(aG).cell 14;have agL:=(aG).cell 15;have agV:=(aG).cell 16;have agW:=(aG).cell 17;have agX:=(aG).cell 18;have agY:=(aG).cell 19;clear aG
  first|(go_simp;done)|(go_simp;with_reducible rfl))
 try simp only[PL]
 refine tk 5 ?_;refine tk 6 ?_;refine tk 7 ?_;refine tk 8 ?_
 refine tk 9 ?_ (hy:=by
  intro w aG;have KO:=(aG).cell 10;clear aG
  first|(go_simp;done)|(go_simp;with_reducible rfl))
 try simp only[PL]
 refine tk 10 ?_;refine tk 12 ?_;refine tk 13 ?_;refine tk 14 ?_;refine tk 15 ?_
 refine tk 16 ?_ (hy:=by
  intro w aG;have asn:=(aG).cell 20;have aso:=(aG).cell 21;have asp:=(aG).cell 22;have asq:=(aG).cell 23;have asr:=(aG).cell 24;have ast:=(aG).cell 25;have asu:=(aG).cell 26;clear aG
  first|(go_simp;done)|(go_simp;with_reducible rfl))
 try simp only[PL]
 refine tk 17 ?_;refine tk 18 ?_;refine tk 19 ?_;refine tk 20 ?_
 refine tk 21 ?_ (hy:=by
  intro w aG;have KO:=(aG).cell 10;clear aG
  first|(go_simp;done)|(go_simp;with_reducible rfl))
 try simp only[PL]
 refine tk 22 ?_
 obtain⟨B2,FA⟩:∃B,B=wd.heap.size:=⟨_,rfl⟩
 have KU:w.heap.size<=B2:=by rw[FA];exact hE.ax.size
 have OI:gw<B2:=by rw[FA];exact(hE.h5).lt
 have ag2:w.heap.size<B2:=by rw[FA];exact(hE.h2).lt
 have ag3:fX<B2:=by rw[FA];exact(hE.g0).lt
 refine fR (I:=ep w _ _ B2 [⟨11,40,ku qa⟩,⟨23,52,ku qu⟩,⟨24,4,kU 29 aW B2⟩,⟨25,5,kU 29 aW B2⟩]) [11,23,24,25] (f1:=2) (by kernel_rfl) (by kernel_rfl) (by kernel_rfl) rfl (by kernel_rfl) (by kernel_rfl) (by rfl) (ep.start hE FA (by kernel_rfl)) ?acf ?asv
 case acf=>
  have hst:∀g∈([⟨11,40,ku qa⟩,⟨23,52,ku qu⟩,⟨24,4,kU 29 aW B2⟩,⟨25,5,kU 29 aW B2⟩]:List cO),∀x,ck (g.R x):=(fun g hg=>by simp only[List.mem_cons,List.not_mem_nil,or_false] at hg;rcases hg with rfl|rfl|rfl|rfl<;>first|exact ku.stable _|exact kU.stable _ _ _|exact OG.stable _|exact OH.stable _)
  clear hE hHeld FA;refine bf.cons (ds:=[0,4,10]) rfl (by kernel_rfl) (fun D a W0 hI hD K hK=> ?_) ?_
  ·
   have hE:=hI.here;obtain⟨xs,rfl,-,hF,-,-⟩:=id hI;obtain⟨IG,xs,rfl,xU,hF⟩:=hF.av;obtain⟨II,xs,rfl,xV,hF⟩:=hF.av;obtain⟨IJ,xs,rfl,xW,hF⟩:=hF.av;obtain⟨IK,xs,rfl,xX,hF⟩:=hF.av;obtain rfl:=hF.nil;clear hF;try simp only[ct,Act.put,List.setIfInBounds_toArray,List.set_cons_zero,List.set_cons_succ,List.getElem_toArray,List.getElem_cons_succ,List.getElem_cons_zero]
   go_simp;refine(gG am0.out (pW (b:=b0) (Bh.aN kX.out hE.ax) iy.out (Ct.aN og.out hE.ax) iI.out CS.out (b0.cnt x) agS.out.2 (by omega) (show au _ gw (pG x (t:Int) gA gD b0 b1 j) _ from hE.h5) u OC)).mono ?_
   rintro e W1 ⟨sa,Aa,na,ca,ta,Ba,ma,da,rfl,hv,hb⟩
   have dD:=hE.step hb;go_wp2_with fail
   refine hK.out _ _ (dD.here.1.1.1.1.1.2) ?_;exact hI.call (c:=ca) (d:=da) 0 hst rfl (by kernel_rfl) (by kernel_rfl) (by kernel_rfl) hb hv
  refine bf.cons (ds:=[12,16,22,11]) rfl (by kernel_rfl) (fun D a W0 hI hD K hK=> ?_) ?_
  ·
   have hE:=hI.here;obtain⟨xs,rfl,-,hF,-,-⟩:=id hI;obtain⟨IG,xs,rfl,xU,hF⟩:=hF.av;obtain⟨II,xs,rfl,xV,hF⟩:=hF.av;obtain⟨IJ,xs,rfl,xW,hF⟩:=hF.av;obtain⟨IK,xs,rfl,xX,hF⟩:=hF.av;obtain rfl:=hF.nil;clear hF;try simp only[ct,Act.put,List.setIfInBounds_toArray,List.set_cons_zero,List.set_cons_succ,List.getElem_toArray,List.getElem_cons_succ,List.getElem_cons_zero]
   go_simp;refine(gG am1.out (pW (b:=b1) (Bh.aN Hhd.out hE.ax) VT.out (Ct.aN og.out hE.ax) iI.out ID.out (b1.cnt x) OD.out.2 (by omega) (show au _ gw (pG x (t:Int) gA gD b0 b1 j) _ from hE.h5) u OC)).mono ?_
   rintro e W1 ⟨su,Au,nu,cu,tu,Bu,mu,du,rfl,hv,hb⟩
   have dD:=hE.step hb;go_wp2_with fail
   refine hK.out _ _ (dD.here.1.1.1.1.1.2) ?_;exact hI.call (c:=cu) (d:=du) 1 hst rfl (by kernel_rfl) (by kernel_rfl) (by kernel_rfl) hb hv
  refine bf.cons (ds:=[]) rfl (by kernel_rfl) (fun D a W0 hI hD K hK=> ?_) ?_
  ·
   have hE:=hI.here;obtain⟨xs,rfl,-,hF,-,-⟩:=id hI;obtain⟨IG,xs,rfl,xU,hF⟩:=hF.av;obtain⟨II,xs,rfl,xV,hF⟩:=hF.av;obtain⟨IJ,xs,rfl,xW,hF⟩:=hF.av;obtain⟨IK,xs,rfl,xX,hF⟩:=hF.av;obtain rfl:=hF.nil;clear hF;try simp only[ct,Act.put,List.setIfInBounds_toArray,List.set_cons_zero,List.set_cons_succ,List.getElem_toArray,List.getElem_cons_succ,List.getElem_cons_zero]
   go_simp;have dD:=hE.alloc (.cells aW 29);refine hK.out _ _ (dD.here.1.1.1.1.1.2) ?_;exact hI.alloc 2 hst rfl (by kernel_rfl) (by kernel_rfl) (by kernel_rfl)
  refine bf.cons (ds:=[]) rfl (by kernel_rfl) (fun D a W0 hI hD K hK=> ?_) ?_
  ·
   have hE:=hI.here;obtain⟨xs,rfl,-,hF,-,-⟩:=id hI;obtain⟨IG,xs,rfl,xU,hF⟩:=hF.av;obtain⟨II,xs,rfl,xV,hF⟩:=hF.av;obtain⟨IJ,xs,rfl,xW,hF⟩:=hF.av;obtain⟨IK,xs,rfl,xX,hF⟩:=hF.av;obtain rfl:=hF.nil;clear hF;try simp only[ct,Act.put,List.setIfInBounds_toArray,List.set_cons_zero,List.set_cons_succ,List.getElem_toArray,List.getElem_cons_succ,List.getElem_cons_zero]
   go_simp;have dD:=hE.alloc (.cells aW 29);refine hK.out _ _ (dD.here.1.1.1.1.1.2) ?_;exact hI.alloc 3 hst rfl (by kernel_rfl) (by kernel_rfl) (by kernel_rfl)
  exact bf.nil
 clear hE hHeld FA;intro D a W2 hI hD;have hE:=hI.here;obtain⟨xs,rfl,-,hF,hA,-⟩:=id hI;clear hI;obtain⟨IG,xs,rfl,xU,hF⟩:=hF.av;obtain⟨II,xs,rfl,xV,hF⟩:=hF.av;obtain⟨IJ,xs,rfl,xW,hF⟩:=hF.av;obtain⟨IK,xs,rfl,xX,hF⟩:=hF.av;obtain rfl:=hF.nil;clear hF;obtain⟨sa,Aa,na,ca,ta,Ba,ma,da,rfl,kY⟩:=xU (hD 11 (by simp));obtain⟨su,Au,nu,cu,tu,Bu,mu,du,rfl,CT⟩:=xV (hD 23 (by simp));obtain⟨iJ,rfl,acg,CU⟩:=xW (hD 24 (by simp));obtain⟨iK,rfl,ach,CV⟩:=xX (hD 25 (by simp));have KV:=hA.ne 2 3 (by decide) rfl rfl rfl rfl (hD 24 (by simp)) (hD 25 (by simp));replace hE:=((((hE.fv kY).fv CT).ag CU).ag CV);clear hA hD kY xU CT xV CU xW CV xX;try simp only[ct,Act.put,List.setIfInBounds_toArray,List.set_cons_zero,List.set_cons_succ,List.getElem_toArray,List.getElem_cons_succ,List.getElem_cons_zero]
 have hHeld:(fun V=>au 125 (gw) (vp x t gA gD b0 b1 j) V) W2:=hE.h9;refine r1 26 (fun K hK=> ?_)
 have ag4:w.heap.size<=iJ:=by omega
 obtain⟨ank,anl,anm,ann⟩:=(hE.g1).c4;obtain⟨ano,anp,anq,anr⟩:=hE.g1.f4;replace hE:=(((((((((((Env.again (bW hE.ax ag4 (.bool sa) (.slice Aa na ca) (.bool ta) (.slice Ba ma da))).ag ((hE.h9).aj (by omega) _ _ _ _)).fv ((hE.h8).ak hE.g1 rfl _ _ _ _ rfl rfl rfl)).fv ((hE.h7).ak hE.g1 rfl _ _ _ _ rfl rfl rfl)).ag ((hE.h6).aj (by omega) _ _ _ _)).fv ((hE.h5).ak hE.g1 rfl _ _ _ _ rfl rfl rfl)).ag ((hE.h4).aj (by omega) _ _ _ _)).fv ((hE.h3).ak hE.g1 rfl _ _ _ _ rfl rfl rfl)).fv ((hE.h2).ak hE.g1 rfl _ _ _ _ rfl rfl rfl)).ag ((hE.g1).s4 _ _ _ _)).ag ((hE.g0).aj (by omega) _ _ _ _));go_simp;clear ank anl anm ann ano anp anq anr ag4;generalize ((((W2.setCell ⟨iJ,0,none⟩ (.bool sa)).setCell ⟨iJ,1,none⟩ (.slice Aa na ca)).setCell ⟨iJ,2,none⟩ (.bool ta)).setCell ⟨iJ,3,none⟩ (.slice Ba ma da))=W2 at hE⊢;refine hK.out _ _ (hE.h9) (fun hHeld=> ?_);clear hK K;try simp only[PL]
 refine r1 27 (fun K hK=> ?_)
 have ag5:w.heap.size<=iK:=by omega
 obtain⟨ans,ant,anu,anv⟩:=(hE.g0).c4;obtain⟨anw,anx,anz,anA⟩:=hE.g0.f4;replace hE:=(((((((((((Env.again (bW hE.ax ag5 (.bool su) (.slice Au nu cu) (.bool tu) (.slice Bu mu du))).ag ((hE.h9).aj (by omega) _ _ _ _)).fv ((hE.h8).ak hE.g0 rfl _ _ _ _ rfl rfl rfl)).fv ((hE.h7).ak hE.g0 rfl _ _ _ _ rfl rfl rfl)).ag ((hE.h6).aj (by omega) _ _ _ _)).fv ((hE.h5).ak hE.g0 rfl _ _ _ _ rfl rfl rfl)).ag ((hE.h4).aj (by omega) _ _ _ _)).fv ((hE.h3).ak hE.g0 rfl _ _ _ _ rfl rfl rfl)).fv ((hE.h2).ak hE.g0 rfl _ _ _ _ rfl rfl rfl)).ag ((hE.g1).aj (by omega) _ _ _ _)).ag ((hE.g0).s4 _ _ _ _));go_simp;clear ans ant anu anv anw anx anz anA ag5;generalize ((((W2.setCell ⟨iK,0,none⟩ (.bool su)).setCell ⟨iK,1,none⟩ (.slice Au nu cu)).setCell ⟨iK,2,none⟩ (.bool tu)).setCell ⟨iK,3,none⟩ (.slice Bu mu du))=W3 at hE⊢;refine hK.out _ _ (hE.h9) (fun hHeld=> ?_);clear hK K;try simp only[PL]
 refine aX (by kernel_rfl) ?_ _
 go_upto_region 3 with(fail)
 clear KU OI ag2 ag3 acg ach KV;go_wp2_with fail
 refine hE.fr (bg 0 _ (by decide) (by decide)) ?_;clear hE;intro sz Az nz cz tz Bz mz dz w4 hE
 go_upto_region 4 with(fail)
 obtain⟨g5,rT⟩:∃g5,g5=w4.heap.size:=⟨_,rfl⟩
 have Zn:gw<g5:=by rw[rT];exact(hE.h10).lt
 have aqD:w.heap.size<g5:=by rw[rT];exact(hE.h7).lt
 have aqE:fX<g5:=by rw[rT];exact(hE.h5).lt
 have aqF:iJ<g5:=by rw[rT];exact(hE.h2).lt
 have aqG:iK<g5:=by rw[rT];exact(hE.g1).lt
 replace hE:=hE.blk 29 (az sz Az nz cz tz Bz mz dz) (g:=g5) rT.symm;generalize w4.alloc (.cells (az sz Az nz cz tz Bz mz dz) 29)=W5 at hE⊢;rw[<-rT];clear rT;replace hE:=hE.drew;refine bH (S:=fun V=>au 125 (gw) (vp x t gA gD b0 b1 j) V) (by kernel_rfl) (hE.h11) (fun hHeld=> ?_)
 generalize W5.drew=wd at*
 refine tk 0 ?_;refine tk 1 ?_;refine tk 2 ?_;refine tk 3 ?_
 refine tk 4 ?_ (hy:=by
  intro w aG;have KO:=(aG).cell 10;clear aG
  first|(go_simp;done)|(go_simp;with_reducible rfl))
 try simp only[PL]
 refine tk 5 ?_;refine tk 6 ?_;refine tk 7 ?_;refine tk 8 ?_;refine tk 9 ?_
 refine tk 10 ?_ (hy:=by
  intro w aG;have qR:=(aG).cell 3;clear aG
  first|(go_simp;done)|(go_simp;with_reducible rfl))
 try simp only[PL]
 refine tk 11 ?_;refine aX (by kernel_rfl) ?_ _
 go_upto_if 65 with(fail)
 go_cut [6] from 18 to 72 (fun p wx=>∃sp Ap np cp tp Bp mp dp,p= .pointer (some ⟨g5,0,none⟩)/\Env w (fun V=>((((((((((((True/\au 125 (gw) (vp x t gA gD b0 b1 j) V)/\FV V qi b0.i.s b0.i.A b0.i.n b0.i.t b0.i.B b0.i.m)/\FV V qj j.s j.A j.n j.t j.B j.m)/\au 126 (w.heap.size) #[.bool false,.slice none 0 0,.bool false,.slice none 0 0,.bool false,.slice none 0 0,.bool false,.slice none 0 0,.bool false,.slice none 0 0,.bool false,.slice none 0 0,.bool false,.slice none 0 0,.bool false,.slice none 0 0,.bool false,.slice none 0 0,.bool false,.slice none 0 0,.bool false,.slice none 0 0,.bool false,.slice none 0 0,.bool false,.slice none 0 0,.bool false,.slice none 0 0,.bool false,.slice none 0 0,.bool false,.slice none 0 0,.bool false,.slice none 0 0,.bool false,.slice none 0 0,.bool false,.slice none 0 0,.bool false,.slice none 0 0] V)/\FV V qv sv Av nv tv Bv mv)/\au 29 (fX) (az sv Av nv cv tv Bv mv dv) V)/\FV V qa sa Aa na ta Ba ma)/\FV V qu su Au nu tu Bu mu)/\au 29 (iJ) (az sa Aa na ca ta Ba ma da) V)/\au 29 (iK) (az su Au nu cu tu Bu mu du) V)/\au 29 (g5) (az sp Ap np cp tp Bp mp dp) V)/\FV V qp sp Ap np tp Bp mp)) wx)
 case first=>
  by_cases hT:(t:Int)<x.T
  ·
   have d1:decide ((t:Int)<x.T)=true:=aL hT;have hpq:=am5.out.below hE.ax;rw[agT.out hT] at hpq;replace hE:=hE.fv hpq;clear hpq;have k6:=(hE.h12).cell 4;have k7:=(hE.h12).cell 5;have k8:=(hE.h12).cell 6;have k9:=(hE.h12).cell 7
   have tH:w.heap.size<=g5:=by omega
   obtain⟨CW,CX,OJ,OK⟩:=(hE.g1).c4;obtain⟨CY,CZ,OL,OM⟩:=hE.g1.f4;replace hE:=((((((((((((((Env.again (bW hE.ax tH (.bool x.p.s) (.slice x.p.A x.p.n x.p.c) (.bool x.p.t) (.slice x.p.B x.p.m x.p.d))).ag ((hE.h12).aj (by omega) _ _ _ _)).fv ((hE.h11).ak hE.g1 rfl _ _ _ _ rfl rfl rfl)).fv ((hE.h10).ak hE.g1 rfl _ _ _ _ rfl rfl rfl)).ag ((hE.h9).aj (by omega) _ _ _ _)).fv ((hE.h8).ak hE.g1 rfl _ _ _ _ rfl rfl rfl)).ag ((hE.h7).aj (by omega) _ _ _ _)).fv ((hE.h6).ak hE.g1 rfl _ _ _ _ rfl rfl rfl)).fv ((hE.h5).ak hE.g1 rfl _ _ _ _ rfl rfl rfl)).ag ((hE.h4).aj (by omega) _ _ _ _)).ag ((hE.h3).aj (by omega) _ _ _ _)).fv ((hE.h2).ak hE.g1 rfl _ _ _ _ rfl rfl rfl)).ag ((hE.g1).s4 _ _ _ _)).fv ((hE.g0).ak hE.g1 rfl _ _ _ _ rfl rfl rfl));go_wp2_with fail
   clear CW CX OJ OK CY CZ OL OM tH;generalize ((((wd.setCell ⟨g5,0,none⟩ (.bool x.p.s)).setCell ⟨g5,1,none⟩ (.slice x.p.A x.p.n x.p.c)).setCell ⟨g5,2,none⟩ (.bool x.p.t)).setCell ⟨g5,3,none⟩ (.slice x.p.B x.p.m x.p.d))=xQ at hE⊢;clear k6 k7 k8 k9;go_meet
   exact⟨x.p.s,x.p.A,x.p.n,x.p.c,x.p.t,x.p.B,x.p.m,x.p.d,rfl,(((((((((((((Env.again hE.ax).ag (hE.h12)).fv (hE.h11)).fv (hE.h10)).ag (hE.h9)).fv (hE.h8)).ag (hE.h7)).fv (hE.h6)).fv (hE.h5)).ag (hE.h4)).ag (hE.h3)).ag (hE.g1)).fv (hE.g0))⟩
  ·
   have d1:decide ((t:Int)<x.T)=false:=aH hT;go_wp2_with fail
   go_meet
   exact⟨sz,Az,nz,cz,tz,Bz,mz,dz,rfl,(((((((((((((Env.again hE.ax).ag (hE.h11)).fv (hE.h10)).fv (hE.h9)).ag (hE.h8)).fv (hE.h7)).ag (hE.h6)).fv (hE.h5)).fv (hE.h4)).ag (hE.h3)).ag (hE.h2)).ag (hE.g0)).fv (show FV _ qp _ _ _ _ _ _ from by rw[<-agU.out hT];exact hE.g1))⟩
 case rest=>
 clear hE;obtain⟨sp,Ap,np,cp,tp,Bp,mp,dp,rfl,hE⟩:=hcut;generalize wc=wk4 at hE⊢
 go_upto_region 6 with(fail)
 replace hE:=hE.drew;refine bH (S:=fun V=>au 125 (gw) (vp x t gA gD b0 b1 j) V) (by kernel_rfl) (hE.h11) (fun hHeld=> ?_)
 generalize wk4.drew=wd at*
 refine tk 0 ?_;refine tk 1 ?_;refine tk 2 ?_;refine tk 3 ?_;refine tk 4 ?_
 refine tk 5 ?_ (hy:=by
  intro w aG;have kc8:=(aG).cell 8;clear aG
  first|(go_simp;done)|(go_simp;with_reducible rfl))
 try simp only[PL]
 refine tk 6 ?_;refine tk 7 ?_;refine tk 8 ?_;refine tk 9 ?_
 refine tk 10 ?_ (hy:=by
  intro w aG;have KO:=(aG).cell 10;clear aG
  first|(go_simp;done)|(go_simp;with_reducible rfl))
 try simp only[PL]
 refine tk 12 ?_;refine tk 13 ?_;refine tk 14 ?_;refine tk 15 ?_;refine tk 16 ?_
 refine tk 17 ?_ (hy:=by
  intro w aG;have kc9:=(aG).cell 9;clear aG
  first|(go_simp;done)|(go_simp;with_reducible rfl))
 try simp only[PL]
 refine tk 18 ?_;refine tk 19 ?_;refine tk 20 ?_;refine tk 21 ?_
 refine tk 22 ?_ (hy:=by
  intro w aG;have KO:=(aG).cell 10;clear aG
  first|(go_simp;done)|(go_simp;with_reducible rfl))
 try simp only[PL]
 obtain⟨B6,TK⟩:∃B,B=wd.heap.size:=⟨_,rfl⟩
 have hw6:w.heap.size<=B6:=by rw[TK];exact hE.ax.size
 have ZB:gw<B6:=by rw[TK];exact(hE.h11).lt
 have xY:w.heap.size<B6:=by rw[TK];exact(hE.h8).lt
 have ag6:fX<B6:=by rw[TK];exact(hE.h6).lt
 have ag7:iJ<B6:=by rw[TK];exact(hE.h3).lt
 have ag8:iK<B6:=by rw[TK];exact(hE.h2).lt
 have aci:g5<B6:=by rw[TK];exact(hE.g1).lt
 refine fR (I:=ep w _ _ B6 [⟨11,83,ku ql⟩,⟨23,95,ku qd⟩,⟨24,7,kU 29 aW B6⟩,⟨25,8,kU 29 aW B6⟩]) [11,23,24,25] (f1:=2) (by kernel_rfl) (by kernel_rfl) (by kernel_rfl) rfl (by kernel_rfl) (by kernel_rfl) (by rfl) (ep.start hE TK (by kernel_rfl)) ?acj ?asw
 case acj=>
  have hst:∀g∈([⟨11,83,ku ql⟩,⟨23,95,ku qd⟩,⟨24,7,kU 29 aW B6⟩,⟨25,8,kU 29 aW B6⟩]:List cO),∀x,ck (g.R x):=(fun g hg=>by simp only[List.mem_cons,List.not_mem_nil,or_false] at hg;rcases hg with rfl|rfl|rfl|rfl<;>first|exact ku.stable _|exact kU.stable _ _ _|exact OG.stable _|exact OH.stable _)
  clear hE hHeld TK;refine bf.cons (ds:=[5,10]) rfl (by kernel_rfl) (fun D a W0 hI hD K hK=> ?_) ?_
  ·
   have hE:=hI.here;obtain⟨xs,rfl,-,hF,-,-⟩:=id hI;obtain⟨IL,xs,rfl,xZ,hF⟩:=hF.av;obtain⟨IM,xs,rfl,ya,hF⟩:=hF.av;obtain⟨IP,xs,rfl,ye,hF⟩:=hF.av;obtain⟨IQ,xs,rfl,yf,hF⟩:=hF.av;obtain rfl:=hF.nil;clear hF;try simp only[ct,Act.put,List.setIfInBounds_toArray,List.set_cons_zero,List.set_cons_succ,List.getElem_toArray,List.getElem_cons_succ,List.getElem_cons_zero]
   go_simp;refine(gG am2.out (xR (Ct.aN og.out hE.ax).2.1 am7.out t ab8)).mono ?_
   rintro e W1 ⟨sl,Al,nl,cl,tl,Bl,ml,dl,rfl,hv,hb⟩
   have dD:=hE.step hb;go_wp2_with fail
   refine hK.out _ _ (dD.here.1.1.1.1.1.1.1.1.1.1.1.2) ?_;exact hI.call (c:=cl) (d:=dl) 0 hst rfl (by kernel_rfl) (by kernel_rfl) (by kernel_rfl) hb hv
  refine bf.cons (ds:=[17,22,11]) rfl (by kernel_rfl) (fun D a W0 hI hD K hK=> ?_) ?_
  ·
   have hE:=hI.here;obtain⟨xs,rfl,-,hF,-,-⟩:=id hI;obtain⟨IL,xs,rfl,xZ,hF⟩:=hF.av;obtain⟨IM,xs,rfl,ya,hF⟩:=hF.av;obtain⟨IP,xs,rfl,ye,hF⟩:=hF.av;obtain⟨IQ,xs,rfl,yf,hF⟩:=hF.av;obtain rfl:=hF.nil;clear hF;try simp only[ct,Act.put,List.setIfInBounds_toArray,List.set_cons_zero,List.set_cons_succ,List.getElem_toArray,List.getElem_cons_succ,List.getElem_cons_zero]
   go_simp;refine(gG am3.out (xR (Ct.aN og.out hE.ax).2.2 OE.out t ab8)).mono ?_
   rintro e W1 ⟨sd,Ad,nd,cd,td,Bd,md,dd,rfl,hv,hb⟩
   have dD:=hE.step hb;go_wp2_with fail
   refine hK.out _ _ (dD.here.1.1.1.1.1.1.1.1.1.1.1.2) ?_;exact hI.call (c:=cd) (d:=dd) 1 hst rfl (by kernel_rfl) (by kernel_rfl) (by kernel_rfl) hb hv
  refine bf.cons (ds:=[]) rfl (by kernel_rfl) (fun D a W0 hI hD K hK=> ?_) ?_
  ·
   have hE:=hI.here;obtain⟨xs,rfl,-,hF,-,-⟩:=id hI;obtain⟨IL,xs,rfl,xZ,hF⟩:=hF.av;obtain⟨IM,xs,rfl,ya,hF⟩:=hF.av;obtain⟨IP,xs,rfl,ye,hF⟩:=hF.av;obtain⟨IQ,xs,rfl,yf,hF⟩:=hF.av;obtain rfl:=hF.nil;clear hF;try simp only[ct,Act.put,List.setIfInBounds_toArray,List.set_cons_zero,List.set_cons_succ,List.getElem_toArray,List.getElem_cons_succ,List.getElem_cons_zero]
   go_simp;have dD:=hE.alloc (.cells aW 29);refine hK.out _ _ (dD.here.1.1.1.1.1.1.1.1.1.1.1.2) ?_;exact hI.alloc 2 hst rfl (by kernel_rfl) (by kernel_rfl) (by kernel_rfl)
  refine bf.cons (ds:=[]) rfl (by kernel_rfl) (fun D a W0 hI hD K hK=> ?_) ?_
  ·
   have hE:=hI.here;obtain⟨xs,rfl,-,hF,-,-⟩:=id hI;obtain⟨IL,xs,rfl,xZ,hF⟩:=hF.av;obtain⟨IM,xs,rfl,ya,hF⟩:=hF.av;obtain⟨IP,xs,rfl,ye,hF⟩:=hF.av;obtain⟨IQ,xs,rfl,yf,hF⟩:=hF.av;obtain rfl:=hF.nil;clear hF;try simp only[ct,Act.put,List.setIfInBounds_toArray,List.set_cons_zero,List.set_cons_succ,List.getElem_toArray,List.getElem_cons_succ,List.getElem_cons_zero]
   go_simp;have dD:=hE.alloc (.cells aW 29);refine hK.out _ _ (dD.here.1.1.1.1.1.1.1.1.1.1.1.2) ?_;exact hI.alloc 3 hst rfl (by kernel_rfl) (by kernel_rfl) (by kernel_rfl)
  exact bf.nil
 clear hE hHeld TK;intro D a W6 hI hD;have hE:=hI.here;obtain⟨xs,rfl,-,hF,hA,-⟩:=id hI;clear hI;obtain⟨IL,xs,rfl,xZ,hF⟩:=hF.av;obtain⟨IM,xs,rfl,ya,hF⟩:=hF.av;obtain⟨IP,xs,rfl,ye,hF⟩:=hF.av;obtain⟨IQ,xs,rfl,yf,hF⟩:=hF.av;obtain rfl:=hF.nil;clear hF;obtain⟨sl,Al,nl,cl,tl,Bl,ml,dl,rfl,kY⟩:=xZ (hD 11 (by simp));obtain⟨sd,Ad,nd,cd,td,Bd,md,dd,rfl,CT⟩:=ya (hD 23 (by simp));obtain⟨jb,rfl,ack,CU⟩:=ye (hD 24 (by simp));obtain⟨jN,rfl,acm,CV⟩:=yf (hD 25 (by simp));have KW:=hA.ne 2 3 (by decide) rfl rfl rfl rfl (hD 24 (by simp)) (hD 25 (by simp));replace hE:=((((hE.fv kY).fv CT).ag CU).ag CV);clear hA hD kY xZ CT ya CU ye CV yf;try simp only[ct,Act.put,List.setIfInBounds_toArray,List.set_cons_zero,List.set_cons_succ,List.getElem_toArray,List.getElem_cons_succ,List.getElem_cons_zero]
 have hHeld:(fun V=>au 125 (gw) (vp x t gA gD b0 b1 j) V) W6:=hE.g15;refine r1 26 (fun K hK=> ?_)
 have ZC:w.heap.size<=jb:=by omega
 obtain⟨ag9,aha,ahb,ahc⟩:=(hE.g1).c4;obtain⟨ahd,ahe,ahf,ahg⟩:=hE.g1.f4;replace hE:=(((((((((((((((((Env.again (bW hE.ax ZC (.bool sl) (.slice Al nl cl) (.bool tl) (.slice Bl ml dl))).ag ((hE.g15).aj (by omega) _ _ _ _)).fv ((hE.g14).ak hE.g1 rfl _ _ _ _ rfl rfl rfl)).fv ((hE.dN).ak hE.g1 rfl _ _ _ _ rfl rfl rfl)).ag ((hE.h12).aj (by omega) _ _ _ _)).fv ((hE.h11).ak hE.g1 rfl _ _ _ _ rfl rfl rfl)).ag ((hE.h10).aj (by omega) _ _ _ _)).fv ((hE.h9).ak hE.g1 rfl _ _ _ _ rfl rfl rfl)).fv ((hE.h8).ak hE.g1 rfl _ _ _ _ rfl rfl rfl)).ag ((hE.h7).aj (by omega) _ _ _ _)).ag ((hE.h6).aj (by omega) _ _ _ _)).ag ((hE.h5).aj (by omega) _ _ _ _)).fv ((hE.h4).ak hE.g1 rfl _ _ _ _ rfl rfl rfl)).fv ((hE.h3).ak hE.g1 rfl _ _ _ _ rfl rfl rfl)).fv ((hE.h2).ak hE.g1 rfl _ _ _ _ rfl rfl rfl)).ag ((hE.g1).s4 _ _ _ _)).ag ((hE.g0).aj (by omega) _ _ _ _));go_simp;clear ag9 aha ahb ahc ahd ahe ahf ahg ZC;generalize ((((W6.setCell ⟨jb,0,none⟩ (.bool sl)).setCell ⟨jb,1,none⟩ (.slice Al nl cl)).setCell ⟨jb,2,none⟩ (.bool tl)).setCell ⟨jb,3,none⟩ (.slice Bl ml dl))=W11 at hE⊢;refine hK.out _ _ (hE.g15) (fun hHeld=> ?_);clear hK K;try simp only[PL]
 refine r1 27 (fun K hK=> ?_)
 have Da:w.heap.size<=jN:=by omega
 obtain⟨OO,OP,ahh,ahi⟩:=(hE.g0).c4;obtain⟨OQ,OS,ahj,ahk⟩:=hE.g0.f4;replace hE:=(((((((((((((((((Env.again (bW hE.ax Da (.bool sd) (.slice Ad nd cd) (.bool td) (.slice Bd md dd))).ag ((hE.g15).aj (by omega) _ _ _ _)).fv ((hE.g14).ak hE.g0 rfl _ _ _ _ rfl rfl rfl)).fv ((hE.dN).ak hE.g0 rfl _ _ _ _ rfl rfl rfl)).ag ((hE.h12).aj (by omega) _ _ _ _)).fv ((hE.h11).ak hE.g0 rfl _ _ _ _ rfl rfl rfl)).ag ((hE.h10).aj (by omega) _ _ _ _)).fv ((hE.h9).ak hE.g0 rfl _ _ _ _ rfl rfl rfl)).fv ((hE.h8).ak hE.g0 rfl _ _ _ _ rfl rfl rfl)).ag ((hE.h7).aj (by omega) _ _ _ _)).ag ((hE.h6).aj (by omega) _ _ _ _)).ag ((hE.h5).aj (by omega) _ _ _ _)).fv ((hE.h4).ak hE.g0 rfl _ _ _ _ rfl rfl rfl)).fv ((hE.h3).ak hE.g0 rfl _ _ _ _ rfl rfl rfl)).fv ((hE.h2).ak hE.g0 rfl _ _ _ _ rfl rfl rfl)).ag ((hE.g1).aj (by omega) _ _ _ _)).ag ((hE.g0).s4 _ _ _ _));go_simp;clear OO OP ahh ahi OQ OS ahj ahk Da;generalize ((((W11.setCell ⟨jN,0,none⟩ (.bool sd)).setCell ⟨jN,1,none⟩ (.slice Ad nd cd)).setCell ⟨jN,2,none⟩ (.bool td)).setCell ⟨jN,3,none⟩ (.slice Bd md dd))=W12 at hE⊢;refine hK.out _ _ (hE.g15) (fun hHeld=> ?_);clear hK K;try simp only[PL]
 refine aX (by kernel_rfl) ?_ _
 go_upto_region 7 with(fail)
 clear hw6 ZB xY ag6 ag7 ag8 aci ack acm KW;replace hE:=hE.drew;refine bH (S:=fun V=>au 125 (gw) (vp x t gA gD b0 b1 j) V) (by kernel_rfl) (hE.g15) (fun hHeld=> ?_)
 generalize W12.drew=wd at*
 refine tk 0 ?_;refine tk 1 ?_;refine tk 2 ?_;refine tk 3 ?_
 refine tk 4 ?_ (hy:=by
  intro w aG;have agV:=(aG).cell 16;have agW:=(aG).cell 17;have agX:=(aG).cell 18;have agY:=(aG).cell 19;clear aG
  first|(go_simp;done)|(go_simp;with_reducible rfl))
 try simp only[PL]
 refine tk 5 ?_;refine tk 6 ?_;refine tk 7 ?_
 refine tk 8 ?_ (hy:=by
  intro w aG;have asx:=(aG).cell 27;have acn:=(aG).cell 28;have aco:=(aG).cell 29;have acp:=(aG).cell 30;clear aG
  first|(go_simp;done)|(go_simp;with_reducible rfl))
 try simp only[PL]
 refine tk 9 ?_
 obtain⟨B7,MF⟩:∃B,B=wd.heap.size:=⟨_,rfl⟩
 have hw7:w.heap.size<=B7:=by rw[MF];exact hE.ax.size
 have ahl:gw<B7:=by rw[MF];exact(hE.g15).lt
 have ahm:w.heap.size<B7:=by rw[MF];exact(hE.h12).lt
 have ahn:fX<B7:=by rw[MF];exact(hE.h10).lt
 have aho:iJ<B7:=by rw[MF];exact(hE.h7).lt
 have ahp:iK<B7:=by rw[MF];exact(hE.h6).lt
 have acq:g5<B7:=by rw[MF];exact(hE.h5).lt
 have acs:jb<B7:=by rw[MF];exact(hE.g1).lt
 have acu:jN<B7:=by rw[MF];exact(hE.g0).lt
 refine fR (I:=ep w _ _ B7 [⟨10,106,ku qq⟩,⟨11,9,kU 29 aW B7⟩,⟨12,10,kU 29 aW B7⟩,⟨13,11,kU 29 aW B7⟩]) [10,11,12,13] (f1:=3) (by kernel_rfl) (by kernel_rfl) (by kernel_rfl) rfl (by kernel_rfl) (by kernel_rfl) (by rfl) (ep.start hE MF (by kernel_rfl)) ?acv ?asy
 case acv=>
  have hst:∀g∈([⟨10,106,ku qq⟩,⟨11,9,kU 29 aW B7⟩,⟨12,10,kU 29 aW B7⟩,⟨13,11,kU 29 aW B7⟩]:List cO),∀x,ck (g.R x):=(fun g hg=>by simp only[List.mem_cons,List.not_mem_nil,or_false] at hg;rcases hg with rfl|rfl|rfl|rfl<;>first|exact ku.stable _|exact kU.stable _ _ _|exact OG.stable _|exact OH.stable _)
  clear hE hHeld MF;refine bf.cons (ds:=[9]) rfl (by kernel_rfl) (fun D a W0 hI hD K hK=> ?_) ?_
  ·
   have hE:=hI.here;obtain⟨xs,rfl,-,hF,-,-⟩:=id hI;obtain⟨IU,xs,rfl,yg,hF⟩:=hF.av;obtain⟨IV,xs,rfl,yh,hF⟩:=hF.av;obtain⟨IW,xs,rfl,yl,hF⟩:=hF.av;obtain⟨IX,xs,rfl,ym,hF⟩:=hF.av;obtain rfl:=hF.nil;clear hF;try simp only[ct,Act.put,List.setIfInBounds_toArray,List.set_cons_zero,List.set_cons_succ,List.getElem_toArray,List.getElem_cons_succ,List.getElem_cons_zero]
   go_simp;refine(gG am4.out (Up (Bh.aN kX.out hE.ax) am9.out am8.out amZ (show au _ gw (pG x (t:Int) gA gD b0 b1 j) _ from hE.g15))).mono ?_
   rintro e W1 ⟨sq,Aq,nq,cq,tq,Bq,mq,dq,rfl,hv,hb⟩
   have dD:=hE.step hb;go_wp2_with fail
   refine hK.out _ _ (dD.g15) ?_;exact hI.call (c:=cq) (d:=dq) 0 hst rfl (by kernel_rfl) (by kernel_rfl) (by kernel_rfl) hb hv
  refine bf.cons (ds:=[]) rfl (by kernel_rfl) (fun D a W0 hI hD K hK=> ?_) ?_
  ·
   have hE:=hI.here;obtain⟨xs,rfl,-,hF,-,-⟩:=id hI;obtain⟨IU,xs,rfl,yg,hF⟩:=hF.av;obtain⟨IV,xs,rfl,yh,hF⟩:=hF.av;obtain⟨IW,xs,rfl,yl,hF⟩:=hF.av;obtain⟨IX,xs,rfl,ym,hF⟩:=hF.av;obtain rfl:=hF.nil;clear hF;try simp only[ct,Act.put,List.setIfInBounds_toArray,List.set_cons_zero,List.set_cons_succ,List.getElem_toArray,List.getElem_cons_succ,List.getElem_cons_zero]
   go_simp;have dD:=hE.alloc (.cells aW 29);refine hK.out _ _ (dD.g15) ?_;exact hI.alloc 1 hst rfl (by kernel_rfl) (by kernel_rfl) (by kernel_rfl)
  refine bf.cons (ds:=[]) rfl (by kernel_rfl) (fun D a W0 hI hD K hK=> ?_) ?_
  ·
   have hE:=hI.here;obtain⟨xs,rfl,-,hF,-,-⟩:=id hI;obtain⟨IU,xs,rfl,yg,hF⟩:=hF.av;obtain⟨IV,xs,rfl,yh,hF⟩:=hF.av;obtain⟨IW,xs,rfl,yl,hF⟩:=hF.av;obtain⟨IX,xs,rfl,ym,hF⟩:=hF.av;obtain rfl:=hF.nil;clear hF;try simp only[ct,Act.put,List.setIfInBounds_toArray,List.set_cons_zero,List.set_cons_succ,List.getElem_toArray,List.getElem_cons_succ,List.getElem_cons_zero]
   go_simp;have dD:=hE.alloc (.cells aW 29);refine hK.out _ _ (dD.g15) ?_;exact hI.alloc 2 hst rfl (by kernel_rfl) (by kernel_rfl) (by kernel_rfl)
  refine bf.cons (ds:=[]) rfl (by kernel_rfl) (fun D a W0 hI hD K hK=> ?_) ?_
  ·
   have hE:=hI.here;obtain⟨xs,rfl,-,hF,-,-⟩:=id hI;obtain⟨IU,xs,rfl,yg,hF⟩:=hF.av;obtain⟨IV,xs,rfl,yh,hF⟩:=hF.av;obtain⟨IW,xs,rfl,yl,hF⟩:=hF.av;obtain⟨IX,xs,rfl,ym,hF⟩:=hF.av;obtain rfl:=hF.nil;clear hF;try simp only[ct,Act.put,List.setIfInBounds_toArray,List.set_cons_zero,List.set_cons_succ,List.getElem_toArray,List.getElem_cons_succ,List.getElem_cons_zero]
   go_simp;have dD:=hE.alloc (.cells aW 29);refine hK.out _ _ (dD.g15) ?_;exact hI.alloc 3 hst rfl (by kernel_rfl) (by kernel_rfl) (by kernel_rfl)
  exact bf.nil
 clear hE hHeld MF;intro D a W7 hI hD;have hE:=hI.here;obtain⟨xs,rfl,-,hF,hA,-⟩:=id hI;clear hI;obtain⟨IU,xs,rfl,yg,hF⟩:=hF.av;obtain⟨IV,xs,rfl,yh,hF⟩:=hF.av;obtain⟨IW,xs,rfl,yl,hF⟩:=hF.av;obtain⟨IX,xs,rfl,ym,hF⟩:=hF.av;obtain rfl:=hF.nil;clear hF;obtain⟨sq,Aq,nq,cq,tq,Bq,mq,dq,rfl,vv⟩:=yg (hD 10 (by simp));obtain⟨jy,rfl,acw,kY⟩:=yh (hD 11 (by simp));obtain⟨jX,rfl,acy,ahq⟩:=yl (hD 12 (by simp));obtain⟨jY,rfl,acz,ahr⟩:=ym (hD 13 (by simp));have KX:=hA.ne 1 2 (by decide) rfl rfl rfl rfl (hD 11 (by simp)) (hD 12 (by simp));have KY:=hA.ne 1 3 (by decide) rfl rfl rfl rfl (hD 11 (by simp)) (hD 13 (by simp));have KZ:=hA.ne 2 3 (by decide) rfl rfl rfl rfl (hD 12 (by simp)) (hD 13 (by simp));replace hE:=((((hE.fv vv).ag kY).ag ahq).ag ahr);clear hA hD vv yg kY yh ahq yl ahr ym;try simp only[ct,Act.put,List.setIfInBounds_toArray,List.set_cons_zero,List.set_cons_succ,List.getElem_toArray,List.getElem_cons_succ,List.getElem_cons_zero]
 have hHeld:(fun V=>au 125 (gw) (vp x t gA gD b0 b1 j) V) W7:=hE.g19;refine r1 14 (fun K hK=> ?_)
 have tI:w.heap.size<=jy:=by omega
 obtain⟨Db,Dc,Dd,De⟩:=(hE.h2).c4;obtain⟨Df,Dg,Dh,Dk⟩:=hE.h2.f4;replace hE:=(((((((((((((((((((((Env.again (bW hE.ax tI (.bool b0.i.s) (.slice b0.i.A b0.i.n b0.i.c) (.bool b0.i.t) (.slice b0.i.B b0.i.m b0.i.d))).ag ((hE.g19).aj (by omega) _ _ _ _)).fv ((hE.g18).ak hE.h2 rfl _ _ _ _ rfl rfl rfl)).fv ((hE.g17).ak hE.h2 rfl _ _ _ _ rfl rfl rfl)).ag ((hE.g16).aj (by omega) _ _ _ _)).fv ((hE.g15).ak hE.h2 rfl _ _ _ _ rfl rfl rfl)).ag ((hE.g14).aj (by omega) _ _ _ _)).fv ((hE.dN).ak hE.h2 rfl _ _ _ _ rfl rfl rfl)).fv ((hE.h12).ak hE.h2 rfl _ _ _ _ rfl rfl rfl)).ag ((hE.h11).aj (by omega) _ _ _ _)).ag ((hE.h10).aj (by omega) _ _ _ _)).ag ((hE.h9).aj (by omega) _ _ _ _)).fv ((hE.h8).ak hE.h2 rfl _ _ _ _ rfl rfl rfl)).fv ((hE.h7).ak hE.h2 rfl _ _ _ _ rfl rfl rfl)).fv ((hE.h6).ak hE.h2 rfl _ _ _ _ rfl rfl rfl)).ag ((hE.h5).aj (by omega) _ _ _ _)).ag ((hE.h4).aj (by omega) _ _ _ _)).fv ((hE.h3).ak hE.h2 rfl _ _ _ _ rfl rfl rfl)).ag ((hE.h2).s4 _ _ _ _)).ag ((hE.g1).aj (by omega) _ _ _ _)).ag ((hE.g0).aj (by omega) _ _ _ _));go_simp;clear Db Dc Dd De Df Dg Dh Dk tI;generalize ((((W7.setCell ⟨jy,0,none⟩ (.bool b0.i.s)).setCell ⟨jy,1,none⟩ (.slice b0.i.A b0.i.n b0.i.c)).setCell ⟨jy,2,none⟩ (.bool b0.i.t)).setCell ⟨jy,3,none⟩ (.slice b0.i.B b0.i.m b0.i.d))=W13 at hE⊢;refine hK.out _ _ (hE.g19) (fun hHeld=> ?_);clear hK K;try simp only[PL]
 refine r1 15 (fun K hK=> ?_)
 have Dl:w.heap.size<=jX:=by omega
 obtain⟨OT,OU,ahs,aht⟩:=(hE.g1).c4;obtain⟨OV,OW,ahu,ahv⟩:=hE.g1.f4;replace hE:=(((((((((((((((((((((Env.again (bW hE.ax Dl (.bool j.s) (.slice j.A j.n j.c) (.bool j.t) (.slice j.B j.m j.d))).ag ((hE.g19).aj (by omega) _ _ _ _)).fv ((hE.g18).ak hE.g1 rfl _ _ _ _ rfl rfl rfl)).fv ((hE.g17).ak hE.g1 rfl _ _ _ _ rfl rfl rfl)).ag ((hE.g16).aj (by omega) _ _ _ _)).fv ((hE.g15).ak hE.g1 rfl _ _ _ _ rfl rfl rfl)).ag ((hE.g14).aj (by omega) _ _ _ _)).fv ((hE.dN).ak hE.g1 rfl _ _ _ _ rfl rfl rfl)).fv ((hE.h12).ak hE.g1 rfl _ _ _ _ rfl rfl rfl)).ag ((hE.h11).aj (by omega) _ _ _ _)).ag ((hE.h10).aj (by omega) _ _ _ _)).ag ((hE.h9).aj (by omega) _ _ _ _)).fv ((hE.h8).ak hE.g1 rfl _ _ _ _ rfl rfl rfl)).fv ((hE.h7).ak hE.g1 rfl _ _ _ _ rfl rfl rfl)).fv ((hE.h6).ak hE.g1 rfl _ _ _ _ rfl rfl rfl)).ag ((hE.h5).aj (by omega) _ _ _ _)).ag ((hE.h4).aj (by omega) _ _ _ _)).fv ((hE.h3).ak hE.g1 rfl _ _ _ _ rfl rfl rfl)).ag ((hE.h2).aj (by omega) _ _ _ _)).ag ((hE.g1).s4 _ _ _ _)).ag ((hE.g0).aj (by omega) _ _ _ _));go_simp;clear OT OU ahs aht OV OW ahu ahv Dl;generalize ((((W13.setCell ⟨jX,0,none⟩ (.bool j.s)).setCell ⟨jX,1,none⟩ (.slice j.A j.n j.c)).setCell ⟨jX,2,none⟩ (.bool j.t)).setCell ⟨jX,3,none⟩ (.slice j.B j.m j.d))=W14 at hE⊢;refine hK.out _ _ (hE.g19) (fun hHeld=> ?_);clear hK K;try simp only[PL]
 refine r1 16 (fun K hK=> ?_)
 have tJ:w.heap.size<=jY:=by omega
 obtain⟨Dm,Dn,OX,OY⟩:=(hE.g0).c4;obtain⟨Dp,Dr,OZ,Pa⟩:=hE.g0.f4;replace hE:=(((((((((((((((((((((Env.again (bW hE.ax tJ (.bool sq) (.slice Aq nq cq) (.bool tq) (.slice Bq mq dq))).ag ((hE.g19).aj (by omega) _ _ _ _)).fv ((hE.g18).ak hE.g0 rfl _ _ _ _ rfl rfl rfl)).fv ((hE.g17).ak hE.g0 rfl _ _ _ _ rfl rfl rfl)).ag ((hE.g16).aj (by omega) _ _ _ _)).fv ((hE.g15).ak hE.g0 rfl _ _ _ _ rfl rfl rfl)).ag ((hE.g14).aj (by omega) _ _ _ _)).fv ((hE.dN).ak hE.g0 rfl _ _ _ _ rfl rfl rfl)).fv ((hE.h12).ak hE.g0 rfl _ _ _ _ rfl rfl rfl)).ag ((hE.h11).aj (by omega) _ _ _ _)).ag ((hE.h10).aj (by omega) _ _ _ _)).ag ((hE.h9).aj (by omega) _ _ _ _)).fv ((hE.h8).ak hE.g0 rfl _ _ _ _ rfl rfl rfl)).fv ((hE.h7).ak hE.g0 rfl _ _ _ _ rfl rfl rfl)).fv ((hE.h6).ak hE.g0 rfl _ _ _ _ rfl rfl rfl)).ag ((hE.h5).aj (by omega) _ _ _ _)).ag ((hE.h4).aj (by omega) _ _ _ _)).fv ((hE.h3).ak hE.g0 rfl _ _ _ _ rfl rfl rfl)).ag ((hE.h2).aj (by omega) _ _ _ _)).ag ((hE.g1).aj (by omega) _ _ _ _)).ag ((hE.g0).s4 _ _ _ _));go_simp;clear Dm Dn OX OY Dp Dr OZ Pa tJ;generalize ((((W14.setCell ⟨jY,0,none⟩ (.bool sq)).setCell ⟨jY,1,none⟩ (.slice Aq nq cq)).setCell ⟨jY,2,none⟩ (.bool tq)).setCell ⟨jY,3,none⟩ (.slice Bq mq dq))=W15 at hE⊢;refine hK.out _ _ (hE.g19) (fun hHeld=> ?_);clear hK K;try simp only[PL]
 refine aX (by kernel_rfl) ?_ _
 go_upto_region 8 with(fail)
 clear hw7 ahl ahm ahn aho ahp acq acs acu acw acy acz KX KY KZ
 go_cut [12,13,14] from 72 to 131 (fun p0 p1 p2 wx=>∃ie jc jd sn An nn cn tn Bn mn dn sm Am nm cm tm Bm mm dm sr Ar nr cr tr Br mr dr,p0= .pointer (some ⟨ie,0,none⟩)/\p1= .pointer (some ⟨jc,0,none⟩)/\p2= .pointer (some ⟨jd,0,none⟩)/\Env w (fun V=>((((((((((((((((((((((((((True/\au 125 (gw) (vp x t gA gD b0 b1 j) V)/\FV V qi b0.i.s b0.i.A b0.i.n b0.i.t b0.i.B b0.i.m)/\FV V qj j.s j.A j.n j.t j.B j.m)/\au 126 (w.heap.size) #[.bool false,.slice none 0 0,.bool false,.slice none 0 0,.bool false,.slice none 0 0,.bool false,.slice none 0 0,.bool false,.slice none 0 0,.bool false,.slice none 0 0,.bool false,.slice none 0 0,.bool false,.slice none 0 0,.bool false,.slice none 0 0,.bool false,.slice none 0 0,.bool false,.slice none 0 0,.bool false,.slice none 0 0,.bool false,.slice none 0 0,.bool false,.slice none 0 0,.bool false,.slice none 0 0,.bool false,.slice none 0 0,.bool false,.slice none 0 0,.bool false,.slice none 0 0,.bool false,.slice none 0 0,.bool false,.slice none 0 0] V)/\FV V qv sv Av nv tv Bv mv)/\au 29 (fX) (az sv Av nv cv tv Bv mv dv) V)/\FV V qa sa Aa na ta Ba ma)/\FV V qu su Au nu tu Bu mu)/\au 29 (iJ) (az sa Aa na ca ta Ba ma da) V)/\au 29 (iK) (az su Au nu cu tu Bu mu du) V)/\au 29 (g5) (az sp Ap np cp tp Bp mp dp) V)/\FV V qp sp Ap np tp Bp mp)/\FV V ql sl Al nl tl Bl ml)/\FV V qd sd Ad nd td Bd md)/\au 29 (jb) (az sl Al nl cl tl Bl ml dl) V)/\au 29 (jN) (az sd Ad nd cd td Bd md dd) V)/\FV V qq sq Aq nq tq Bq mq)/\au 29 (jy) (az b0.i.s b0.i.A b0.i.n b0.i.c b0.i.t b0.i.B b0.i.m b0.i.d) V)/\au 29 (jX) (az j.s j.A j.n j.c j.t j.B j.m j.d) V)/\au 29 (jY) (az sq Aq nq cq tq Bq mq dq) V)/\FV V qn sn An nn tn Bn mn)/\FV V qm sm Am nm tm Bm mm)/\FV V (qn-qm) sr Ar nr tr Br mr)/\au 29 (ie) (az sn An nn cn tn Bn mn dn) V)/\au 29 (jc) (az sm Am nm cm tm Bm mm dm) V)/\au 29 (jd) (az sr Ar nr cr tr Br mr dr) V)) wx)
 case first=>
  replace hE:=hE.drew;refine bH (S:=fun V=>au 125 (gw) (vp x t gA gD b0 b1 j) V) (by kernel_rfl) (hE.g19) (fun hHeld=> ?_)
  generalize W15.drew=wd at*
  refine tk 0 ?_;refine tk 1 ?_;refine tk 2 ?_;refine tk 3 ?_
  refine tk 4 ?_ (hy:=by
   intro w aG;have anB:=(aG).cell 11;clear aG
   first|(go_simp;done)|(go_simp;with_reducible rfl))
  try simp only[PL]
  refine tk 6 ?_;refine tk 7 ?_;refine tk 8 ?_;refine tk 9 ?_
  refine tk 10 ?_ (hy:=by
   intro w aG;have anC:=(aG).cell 12;clear aG
   first|(go_simp;done)|(go_simp;with_reducible rfl))
  try simp only[PL]
  refine tk 12 ?_;refine tk 13 ?_;refine tk 14 ?_;refine tk 15 ?_
  refine tk 16 ?_ (hy:=by
   intro w aG;have anB:=(aG).cell 11;clear aG
   first|(go_simp;done)|(go_simp;with_reducible rfl))
  try simp only[PL]
  refine tk 17 ?_;refine tk 18 ?_;refine tk 19 ?_;refine tk 20 ?_
  refine tk 21 ?_ (hy:=by
   intro w aG;have anC:=(aG).cell 12;clear aG
   first|(go_simp;done)|(go_simp;with_reducible rfl))
  try simp only[PL]
  refine tk 22 ?_
  obtain⟨B8,Gg⟩:∃B,B=wd.heap.size:=⟨_,rfl⟩
  have hw8:w.heap.size<=B8:=by rw[Gg];exact hE.ax.size
  have aqH:gw<B8:=by rw[Gg];exact(hE.g19).lt
  have ahw:w.heap.size<B8:=by rw[Gg];exact(hE.g16).lt
  have aqI:fX<B8:=by rw[Gg];exact(hE.g14).lt
  have aqJ:iJ<B8:=by rw[Gg];exact(hE.h11).lt
  have aqK:iK<B8:=by rw[Gg];exact(hE.h10).lt
  have anD:g5<B8:=by rw[Gg];exact(hE.h9).lt
  have anE:jb<B8:=by rw[Gg];exact(hE.h5).lt
  have anF:jN<B8:=by rw[Gg];exact(hE.h4).lt
  have anG:jy<B8:=by rw[Gg];exact(hE.h2).lt
  have anH:jX<B8:=by rw[Gg];exact(hE.g1).lt
  have anI:jY<B8:=by rw[Gg];exact(hE.g0).lt
  refine fR (I:=ep w _ _ B8 [⟨5,112,ku qn⟩,⟨11,118,ku qm⟩,⟨23,130,ku (qn-qm)⟩,⟨24,12,kU 29 aW B8⟩,⟨25,13,kU 29 aW B8⟩,⟨26,14,kU 29 aW B8⟩]) [5,11,23,24,25,26] (f1:=3) (by kernel_rfl) (by kernel_rfl) (by kernel_rfl) rfl (by kernel_rfl) (by kernel_rfl) (by rfl) (ep.start hE Gg (by kernel_rfl)) ?acA ?asz
  case acA=>
   have hst:∀g∈([⟨5,112,ku qn⟩,⟨11,118,ku qm⟩,⟨23,130,ku (qn-qm)⟩,⟨24,12,kU 29 aW B8⟩,⟨25,13,kU 29 aW B8⟩,⟨26,14,kU 29 aW B8⟩]:List cO),∀x,ck (g.R x):=(fun g hg=>by simp only[List.mem_cons,List.not_mem_nil,or_false] at hg;rcases hg with rfl|rfl|rfl|rfl|rfl|rfl<;>first|exact ku.stable _|exact kU.stable _ _ _|exact OG.stable _|exact OH.stable _)
   clear hE hHeld Gg;refine bf.cons (ds:=[4]) rfl (by kernel_rfl) (fun D a W0 hI hD K hK=> ?_) ?_
   ·
    have hE:=hI.here;obtain⟨xs,rfl,-,hF,-,-⟩:=id hI;obtain⟨La,xs,rfl,Ds,hF⟩:=hF.av;obtain⟨yo,xs,rfl,tK,hF⟩:=hF.av;obtain⟨yp,xs,rfl,tL,hF⟩:=hF.av;obtain⟨yq,xs,rfl,tM,hF⟩:=hF.av;obtain⟨yt,xs,rfl,tN,hF⟩:=hF.av;obtain⟨yu,xs,rfl,tO,hF⟩:=hF.av;obtain rfl:=hF.nil;clear hF;try simp only[ct,Act.put,List.setIfInBounds_toArray,List.set_cons_zero,List.set_cons_succ,List.getElem_toArray,List.getElem_cons_succ,List.getElem_cons_zero]
    go_simp;refine(gG agQ.out (bg gA _ (by omega) (by omega))).mono ?_
    rintro e W1 ⟨sn,An,nn,cn,tn,Bn,mn,dn,rfl,hv,hb⟩
    have dD:=hE.step hb;go_wp2_with fail
    refine hK.out _ _ (dD.g19) ?_;exact hI.call (c:=cn) (d:=dn) 0 hst rfl (by kernel_rfl) (by kernel_rfl) (by kernel_rfl) hb hv
   refine bf.cons (ds:=[10,5]) rfl (by kernel_rfl) (fun D a W0 hI hD K hK=> ?_) ?_
   ·
    have hE:=hI.here;obtain⟨xs,rfl,-,hF,-,-⟩:=id hI;obtain⟨La,xs,rfl,Ds,hF⟩:=hF.av;obtain⟨yo,xs,rfl,tK,hF⟩:=hF.av;obtain⟨yp,xs,rfl,tL,hF⟩:=hF.av;obtain⟨yq,xs,rfl,tM,hF⟩:=hF.av;obtain⟨yt,xs,rfl,tN,hF⟩:=hF.av;obtain⟨yu,xs,rfl,tO,hF⟩:=hF.av;obtain rfl:=hF.nil;clear hF;try simp only[ct,Act.put,List.setIfInBounds_toArray,List.set_cons_zero,List.set_cons_succ,List.getElem_toArray,List.getElem_cons_succ,List.getElem_cons_zero]
    go_simp;refine(gG agR.out (bg gD _ (by omega) (by omega))).mono ?_
    rintro e W1 ⟨sm,Am,nm,cm,tm,Bm,mm,dm,rfl,hv,hb⟩
    have dD:=hE.step hb;go_wp2_with fail
    refine hK.out _ _ (dD.g19) ?_;exact hI.call (c:=cm) (d:=dm) 1 hst rfl (by kernel_rfl) (by kernel_rfl) (by kernel_rfl) hb hv
   refine bf.cons (ds:=[22,11]) rfl (by kernel_rfl) (fun D a W0 hI hD K hK=> ?_) ?_
   ·
    have hE:=hI.here;obtain⟨xs,rfl,-,hF,-,-⟩:=id hI;obtain⟨La,xs,rfl,Ds,hF⟩:=hF.av;obtain⟨yo,xs,rfl,tK,hF⟩:=hF.av;obtain⟨yp,xs,rfl,tL,hF⟩:=hF.av;obtain⟨yq,xs,rfl,tM,hF⟩:=hF.av;obtain⟨yt,xs,rfl,tN,hF⟩:=hF.av;obtain⟨yu,xs,rfl,tO,hF⟩:=hF.av;obtain rfl:=hF.nil;clear hF;try simp only[ct,Act.put,List.setIfInBounds_toArray,List.set_cons_zero,List.set_cons_succ,List.getElem_toArray,List.getElem_cons_succ,List.getElem_cons_zero]
    go_simp;refine(gG acd.out (bg (gA-gD) _ (by omega) (by omega))).mono ?_
    rintro e W1 ⟨sr,Ar,nr,cr,tr,Br,mr,dr,rfl,hv,hb⟩
    have dD:=hE.step hb;go_wp2_with fail
    refine hK.out _ _ (dD.g19) ?_;exact hI.call (c:=cr) (d:=dr) 2 hst rfl (by kernel_rfl) (by kernel_rfl) (by kernel_rfl) hb hv
   refine bf.cons (ds:=[]) rfl (by kernel_rfl) (fun D a W0 hI hD K hK=> ?_) ?_
   ·
    have hE:=hI.here;obtain⟨xs,rfl,-,hF,-,-⟩:=id hI;obtain⟨La,xs,rfl,Ds,hF⟩:=hF.av;obtain⟨yo,xs,rfl,tK,hF⟩:=hF.av;obtain⟨yp,xs,rfl,tL,hF⟩:=hF.av;obtain⟨yq,xs,rfl,tM,hF⟩:=hF.av;obtain⟨yt,xs,rfl,tN,hF⟩:=hF.av;obtain⟨yu,xs,rfl,tO,hF⟩:=hF.av;obtain rfl:=hF.nil;clear hF;try simp only[ct,Act.put,List.setIfInBounds_toArray,List.set_cons_zero,List.set_cons_succ,List.getElem_toArray,List.getElem_cons_succ,List.getElem_cons_zero]
    go_simp;have dD:=hE.alloc (.cells aW 29);refine hK.out _ _ (dD.g19) ?_;exact hI.alloc 3 hst rfl (by kernel_rfl) (by kernel_rfl) (by kernel_rfl)
   refine bf.cons (ds:=[]) rfl (by kernel_rfl) (fun D a W0 hI hD K hK=> ?_) ?_
   ·
    have hE:=hI.here;obtain⟨xs,rfl,-,hF,-,-⟩:=id hI;obtain⟨La,xs,rfl,Ds,hF⟩:=hF.av;obtain⟨yo,xs,rfl,tK,hF⟩:=hF.av;obtain⟨yp,xs,rfl,tL,hF⟩:=hF.av;obtain⟨yq,xs,rfl,tM,hF⟩:=hF.av;obtain⟨yt,xs,rfl,tN,hF⟩:=hF.av;obtain⟨yu,xs,rfl,tO,hF⟩:=hF.av;obtain rfl:=hF.nil;clear hF;try simp only[ct,Act.put,List.setIfInBounds_toArray,List.set_cons_zero,List.set_cons_succ,List.getElem_toArray,List.getElem_cons_succ,List.getElem_cons_zero]
    go_simp;have dD:=hE.alloc (.cells aW 29);refine hK.out _ _ (dD.g19) ?_;exact hI.alloc 4 hst rfl (by kernel_rfl) (by kernel_rfl) (by kernel_rfl)
   refine bf.cons (ds:=[]) rfl (by kernel_rfl) (fun D a W0 hI hD K hK=> ?_) ?_
   ·
    have hE:=hI.here;obtain⟨xs,rfl,-,hF,-,-⟩:=id hI;obtain⟨La,xs,rfl,Ds,hF⟩:=hF.av;obtain⟨yo,xs,rfl,tK,hF⟩:=hF.av;obtain⟨yp,xs,rfl,tL,hF⟩:=hF.av;obtain⟨yq,xs,rfl,tM,hF⟩:=hF.av;obtain⟨yt,xs,rfl,tN,hF⟩:=hF.av;obtain⟨yu,xs,rfl,tO,hF⟩:=hF.av;obtain rfl:=hF.nil;clear hF;try simp only[ct,Act.put,List.setIfInBounds_toArray,List.set_cons_zero,List.set_cons_succ,List.getElem_toArray,List.getElem_cons_succ,List.getElem_cons_zero]
    go_simp;have dD:=hE.alloc (.cells aW 29);refine hK.out _ _ (dD.g19) ?_;exact hI.alloc 5 hst rfl (by kernel_rfl) (by kernel_rfl) (by kernel_rfl)
   exact bf.nil
  clear hE hHeld Gg;intro D a W8 hI hD;have hE:=hI.here;obtain⟨xs,rfl,-,hF,hA,-⟩:=id hI;clear hI;obtain⟨La,xs,rfl,Ds,hF⟩:=hF.av;obtain⟨yo,xs,rfl,tK,hF⟩:=hF.av;obtain⟨yp,xs,rfl,tL,hF⟩:=hF.av;obtain⟨yq,xs,rfl,tM,hF⟩:=hF.av;obtain⟨yt,xs,rfl,tN,hF⟩:=hF.av;obtain⟨yu,xs,rfl,tO,hF⟩:=hF.av;obtain rfl:=hF.nil;clear hF;obtain⟨sn,An,nn,cn,tn,Bn,mn,dn,rfl,Lb⟩:=Ds (hD 5 (by simp));obtain⟨sm,Am,nm,cm,tm,Bm,mm,dm,rfl,kY⟩:=tK (hD 11 (by simp));obtain⟨sr,Ar,nr,cr,tr,Br,mr,dr,rfl,CT⟩:=tL (hD 23 (by simp));obtain⟨ie,rfl,anJ,CU⟩:=tM (hD 24 (by simp));obtain⟨jc,rfl,anK,CV⟩:=tN (hD 25 (by simp));obtain⟨jd,rfl,anL,ahx⟩:=tO (hD 26 (by simp));have aeD:=hA.ne 3 4 (by decide) rfl rfl rfl rfl (hD 24 (by simp)) (hD 25 (by simp));have aeE:=hA.ne 3 5 (by decide) rfl rfl rfl rfl (hD 24 (by simp)) (hD 26 (by simp));have aeF:=hA.ne 4 5 (by decide) rfl rfl rfl rfl (hD 25 (by simp)) (hD 26 (by simp));replace hE:=((((((hE.fv Lb).fv kY).fv CT).ag CU).ag CV).ag ahx);clear hA hD Lb Ds kY tK CT tL CU tM CV tN ahx tO;try simp only[ct,Act.put,List.setIfInBounds_toArray,List.set_cons_zero,List.set_cons_succ,List.getElem_toArray,List.getElem_cons_succ,List.getElem_cons_zero]
  have hHeld:(fun V=>au 125 (gw) (vp x t gA gD b0 b1 j) V) W8:=hE.iC;refine r1 27 (fun K hK=> ?_)
  have tP:w.heap.size<=ie:=by omega
  obtain⟨Dt,Du,Pb,Pc⟩:=(hE.h2).c4;obtain⟨Dw,Dx,Pd,Pe⟩:=hE.h2.f4;replace hE:=(((((((((((((((((((((((((((Env.again (bW hE.ax tP (.bool sn) (.slice An nn cn) (.bool tn) (.slice Bn mn dn))).ag ((hE.iC).aj (by omega) _ _ _ _)).fv ((hE.g24).ak hE.h2 rfl _ _ _ _ rfl rfl rfl)).fv ((hE.g23).ak hE.h2 rfl _ _ _ _ rfl rfl rfl)).ag ((hE.g22).aj (by omega) _ _ _ _)).fv ((hE.g21).ak hE.h2 rfl _ _ _ _ rfl rfl rfl)).ag ((hE.g20).aj (by omega) _ _ _ _)).fv ((hE.g19).ak hE.h2 rfl _ _ _ _ rfl rfl rfl)).fv ((hE.g18).ak hE.h2 rfl _ _ _ _ rfl rfl rfl)).ag ((hE.g17).aj (by omega) _ _ _ _)).ag ((hE.g16).aj (by omega) _ _ _ _)).ag ((hE.g15).aj (by omega) _ _ _ _)).fv ((hE.g14).ak hE.h2 rfl _ _ _ _ rfl rfl rfl)).fv ((hE.dN).ak hE.h2 rfl _ _ _ _ rfl rfl rfl)).fv ((hE.h12).ak hE.h2 rfl _ _ _ _ rfl rfl rfl)).ag ((hE.h11).aj (by omega) _ _ _ _)).ag ((hE.h10).aj (by omega) _ _ _ _)).fv ((hE.h9).ak hE.h2 rfl _ _ _ _ rfl rfl rfl)).ag ((hE.h8).aj (by omega) _ _ _ _)).ag ((hE.h7).aj (by omega) _ _ _ _)).ag ((hE.h6).aj (by omega) _ _ _ _)).fv ((hE.h5).ak hE.h2 rfl _ _ _ _ rfl rfl rfl)).fv ((hE.h4).ak hE.h2 rfl _ _ _ _ rfl rfl rfl)).fv ((hE.h3).ak hE.h2 rfl _ _ _ _ rfl rfl rfl)).ag ((hE.h2).s4 _ _ _ _)).ag ((hE.g1).aj (by omega) _ _ _ _)).ag ((hE.g0).aj (by omega) _ _ _ _));go_simp;clear Dt Du Pb Pc Dw Dx Pd Pe tP;generalize ((((W8.setCell ⟨ie,0,none⟩ (.bool sn)).setCell ⟨ie,1,none⟩ (.slice An nn cn)).setCell ⟨ie,2,none⟩ (.bool tn)).setCell ⟨ie,3,none⟩ (.slice Bn mn dn))=Pf at hE⊢;refine hK.out _ _ (hE.iC) (fun hHeld=> ?_);clear hK K;try simp only[PL]
  refine r1 28 (fun K hK=> ?_)
  have kF:w.heap.size<=jc:=by omega
  obtain⟨vw,vz,Dy,Dz⟩:=(hE.g1).c4;obtain⟨vA,vB,DA,DB⟩:=hE.g1.f4;replace hE:=(((((((((((((((((((((((((((Env.again (bW hE.ax kF (.bool sm) (.slice Am nm cm) (.bool tm) (.slice Bm mm dm))).ag ((hE.iC).aj (by omega) _ _ _ _)).fv ((hE.g24).ak hE.g1 rfl _ _ _ _ rfl rfl rfl)).fv ((hE.g23).ak hE.g1 rfl _ _ _ _ rfl rfl rfl)).ag ((hE.g22).aj (by omega) _ _ _ _)).fv ((hE.g21).ak hE.g1 rfl _ _ _ _ rfl rfl rfl)).ag ((hE.g20).aj (by omega) _ _ _ _)).fv ((hE.g19).ak hE.g1 rfl _ _ _ _ rfl rfl rfl)).fv ((hE.g18).ak hE.g1 rfl _ _ _ _ rfl rfl rfl)).ag ((hE.g17).aj (by omega) _ _ _ _)).ag ((hE.g16).aj (by omega) _ _ _ _)).ag ((hE.g15).aj (by omega) _ _ _ _)).fv ((hE.g14).ak hE.g1 rfl _ _ _ _ rfl rfl rfl)).fv ((hE.dN).ak hE.g1 rfl _ _ _ _ rfl rfl rfl)).fv ((hE.h12).ak hE.g1 rfl _ _ _ _ rfl rfl rfl)).ag ((hE.h11).aj (by omega) _ _ _ _)).ag ((hE.h10).aj (by omega) _ _ _ _)).fv ((hE.h9).ak hE.g1 rfl _ _ _ _ rfl rfl rfl)).ag ((hE.h8).aj (by omega) _ _ _ _)).ag ((hE.h7).aj (by omega) _ _ _ _)).ag ((hE.h6).aj (by omega) _ _ _ _)).fv ((hE.h5).ak hE.g1 rfl _ _ _ _ rfl rfl rfl)).fv ((hE.h4).ak hE.g1 rfl _ _ _ _ rfl rfl rfl)).fv ((hE.h3).ak hE.g1 rfl _ _ _ _ rfl rfl rfl)).ag ((hE.h2).aj (by omega) _ _ _ _)).ag ((hE.g1).s4 _ _ _ _)).ag ((hE.g0).aj (by omega) _ _ _ _));go_simp;clear vw vz Dy Dz vA vB DA DB kF;generalize ((((Pf.setCell ⟨jc,0,none⟩ (.bool sm)).setCell ⟨jc,1,none⟩ (.slice Am nm cm)).setCell ⟨jc,2,none⟩ (.bool tm)).setCell ⟨jc,3,none⟩ (.slice Bm mm dm))=W17 at hE⊢;refine hK.out _ _ (hE.iC) (fun hHeld=> ?_);clear hK K;try simp only[PL]
  refine r1 29 (fun K hK=> ?_)
  have tQ:w.heap.size<=jd:=by omega
  obtain⟨Pg,Ph,Pj,Pk⟩:=(hE.g0).c4;obtain⟨Po,Pq,Pt,Pu⟩:=hE.g0.f4;replace hE:=(((((((((((((((((((((((((((Env.again (bW hE.ax tQ (.bool sr) (.slice Ar nr cr) (.bool tr) (.slice Br mr dr))).ag ((hE.iC).aj (by omega) _ _ _ _)).fv ((hE.g24).ak hE.g0 rfl _ _ _ _ rfl rfl rfl)).fv ((hE.g23).ak hE.g0 rfl _ _ _ _ rfl rfl rfl)).ag ((hE.g22).aj (by omega) _ _ _ _)).fv ((hE.g21).ak hE.g0 rfl _ _ _ _ rfl rfl rfl)).ag ((hE.g20).aj (by omega) _ _ _ _)).fv ((hE.g19).ak hE.g0 rfl _ _ _ _ rfl rfl rfl)).fv ((hE.g18).ak hE.g0 rfl _ _ _ _ rfl rfl rfl)).ag ((hE.g17).aj (by omega) _ _ _ _)).ag ((hE.g16).aj (by omega) _ _ _ _)).ag ((hE.g15).aj (by omega) _ _ _ _)).fv ((hE.g14).ak hE.g0 rfl _ _ _ _ rfl rfl rfl)).fv ((hE.dN).ak hE.g0 rfl _ _ _ _ rfl rfl rfl)).fv ((hE.h12).ak hE.g0 rfl _ _ _ _ rfl rfl rfl)).ag ((hE.h11).aj (by omega) _ _ _ _)).ag ((hE.h10).aj (by omega) _ _ _ _)).fv ((hE.h9).ak hE.g0 rfl _ _ _ _ rfl rfl rfl)).ag ((hE.h8).aj (by omega) _ _ _ _)).ag ((hE.h7).aj (by omega) _ _ _ _)).ag ((hE.h6).aj (by omega) _ _ _ _)).fv ((hE.h5).ak hE.g0 rfl _ _ _ _ rfl rfl rfl)).fv ((hE.h4).ak hE.g0 rfl _ _ _ _ rfl rfl rfl)).fv ((hE.h3).ak hE.g0 rfl _ _ _ _ rfl rfl rfl)).ag ((hE.h2).aj (by omega) _ _ _ _)).ag ((hE.g1).aj (by omega) _ _ _ _)).ag ((hE.g0).s4 _ _ _ _));go_simp;clear Pg Ph Pj Pk Po Pq Pt Pu tQ;generalize ((((W17.setCell ⟨jd,0,none⟩ (.bool sr)).setCell ⟨jd,1,none⟩ (.slice Ar nr cr)).setCell ⟨jd,2,none⟩ (.bool tr)).setCell ⟨jd,3,none⟩ (.slice Br mr dr))=W18 at hE⊢;refine hK.out _ _ (hE.iC) (fun hHeld=> ?_);clear hK K;try simp only[PL]
  refine aX (by kernel_rfl) ?_ _;go_wp2_with fail
  go_meet
  exact⟨ie,jc,jd,sn,An,nn,cn,tn,Bn,mn,dn,sm,Am,nm,cm,tm,Bm,mm,dm,sr,Ar,nr,cr,tr,Br,mr,dr,rfl,rfl,rfl,(((((((((((((((((((((((((((Env.again hE.ax).ag (hE.iC)).fv (hE.g24)).fv (hE.g23)).ag (hE.g22)).fv (hE.g21)).ag (hE.g20)).fv (hE.g19)).fv (hE.g18)).ag (hE.g17)).ag (hE.g16)).ag (hE.g15)).fv (hE.g14)).fv (hE.dN)).fv (hE.h12)).ag (hE.h11)).ag (hE.h10)).fv (hE.h9)).ag (hE.h8)).ag (hE.h7)).ag (hE.h6)).fv (hE.h5)).fv (hE.h4)).fv (hE.h3)).ag (hE.h2)).ag (hE.g1)).ag (hE.g0))⟩
 case rest=>
 clear hE;obtain⟨ie,jc,jd,sn,An,nn,cn,tn,Bn,mn,dn,sm,Am,nm,cm,tm,Bm,mm,dm,sr,Ar,nr,cr,tr,Br,mr,dr,rfl,rfl,rfl,hE⟩:=hcut;generalize wc=wk8 at hE⊢
 go_upto_region 9 with(fail)
 replace hE:=hE.drew;refine bH (S:=fun V=>au 125 (gw) (vp x t gA gD b0 b1 j) V/\au 29 (fX) (az sv Av nv cv tv Bv mv dv) V/\au 29 (g5) (az sp Ap np cp tp Bp mp dp) V/\au 29 (jb) (az sl Al nl cl tl Bl ml dl) V) (by kernel_rfl) (⟨hE.iC,hE.g20,hE.g15,hE.h11⟩) (fun hHeld=> ?_)
 generalize wk8.drew=wd at*
 refine tk 0 ?_;refine tk 1 ?_;refine tk 2 ?_;refine tk 3 ?_;refine tk 4 ?_;refine tk 5 ?_
 refine tk 6 ?_ (hy:=by
  intro w aG;have nR:=(aG.2.1).cell 0;have qL:=(aG.2.1).cell 1;have rS:=(aG.2.1).cell 2;have qR:=(aG.2.1).cell 3;clear aG
  first|(go_simp;done)|(go_simp;with_reducible rfl))
 try simp only[PL]
 refine tk 7 ?_ (hy:=by
  intro w aG;have nR:=(aG.2.2.1).cell 0;have qL:=(aG.2.2.1).cell 1;have rS:=(aG.2.2.1).cell 2;have qR:=(aG.2.2.1).cell 3;clear aG
  first|(go_simp;done)|(go_simp;with_reducible rfl))
 try simp only[PL]
 refine tk 9 ?_ (hy:=by
  intro w aG;have nR:=(aG.2.2.2).cell 0;have qL:=(aG.2.2.2).cell 1;have rS:=(aG.2.2.2).cell 2;have qR:=(aG.2.2.2).cell 3;clear aG
  first|(go_simp;done)|(go_simp;with_reducible rfl))
 try simp only[PL]
 obtain⟨B9,oL⟩:∃B,B=wd.heap.size:=⟨_,rfl⟩
 have hw9:w.heap.size<=B9:=by rw[oL];exact hE.ax.size
 have ZD:gw<B9:=by rw[oL];exact(hE.iC).lt
 have Pv:w.heap.size<B9:=by rw[oL];exact(hE.g22).lt
 have ahy:fX<B9:=by rw[oL];exact(hE.g20).lt
 have ahz:iJ<B9:=by rw[oL];exact(hE.g17).lt
 have ahA:iK<B9:=by rw[oL];exact(hE.g16).lt
 have acB:g5<B9:=by rw[oL];exact(hE.g15).lt
 have acC:jb<B9:=by rw[oL];exact(hE.h11).lt
 have acD:jN<B9:=by rw[oL];exact(hE.h10).lt
 have acE:jy<B9:=by rw[oL];exact(hE.h8).lt
 have acF:jX<B9:=by rw[oL];exact(hE.h7).lt
 have acG:jY<B9:=by rw[oL];exact(hE.h6).lt
 have acH:ie<B9:=by rw[oL];exact(hE.h2).lt
 have acI:jc<B9:=by rw[oL];exact(hE.g1).lt
 have acJ:jd<B9:=by rw[oL];exact(hE.g0).lt
 refine fR (I:=ep w _ _ B9 [⟨8,139,ku (qv+qp)⟩,⟨10,141,ku (qv+qp-ql)⟩,⟨11,15,kU 29 aW B9⟩]) [8,10,11] (f1:=1) (by kernel_rfl) (by kernel_rfl) (by kernel_rfl) rfl (by kernel_rfl) (by kernel_rfl) (by rfl) (ep.start hE oL (by kernel_rfl)) ?acK ?asA
 case acK=>
  have hst:∀g∈([⟨8,139,ku (qv+qp)⟩,⟨10,141,ku (qv+qp-ql)⟩,⟨11,15,kU 29 aW B9⟩]:List cO),∀x,ck (g.R x):=(fun g hg=>by simp only[List.mem_cons,List.not_mem_nil,or_false] at hg;rcases hg with rfl|rfl|rfl<;>first|exact ku.stable _|exact kU.stable _ _ _|exact OG.stable _|exact OH.stable _)
  clear hE hHeld oL;refine bf.cons (ds:=[5,6,7]) rfl (by kernel_rfl) (fun D a W0 hI hD K hK=> ?_) ?_
  ·
   have hE:=hI.here;obtain⟨xs,rfl,-,hF,-,-⟩:=id hI;obtain⟨acL,xs,rfl,Lc,hF⟩:=hF.av;obtain⟨Pw,xs,rfl,DC,hF⟩:=hF.av;obtain⟨Px,xs,rfl,DE,hF⟩:=hF.av;obtain rfl:=hF.nil;clear hF;try simp only[ct,Act.put,List.setIfInBounds_toArray,List.set_cons_zero,List.set_cons_succ,List.getElem_toArray,List.getElem_cons_succ,List.getElem_cons_zero]
   go_simp;refine(mC (ca:=cv) (da:=dv) (cb:=cp) (db:=dp) (dI (show au _ gw (pG x (t:Int) gA gD b0 b1 j) _ from hE.iC)) (hE.g21) (hE.g14) je.out.l1 je.out.l4 je.out.b1).mono ?_
   rintro e W1 ⟨se,Ae,ne,ce,te,Be,me,de,rfl,hv,hb⟩
   have dD:=hE.step hb;go_wp2_with fail
   refine hK.out _ _ (⟨dD.iC,dD.g20,dD.g15,dD.here.1.1.1.1.1.1.1.1.1.1.1.2⟩) ?_;exact hI.call (c:=ce) (d:=de) 0 hst rfl (by kernel_rfl) (by kernel_rfl) (by kernel_rfl) hb hv
  refine bf.cons (ds:=[2,8,9,8]) rfl (by kernel_rfl) (fun D a W0 hI hD K hK=> ?_) ?_
  ·
   have hE:=hI.here;obtain⟨xs,rfl,-,hF,-,-⟩:=id hI;obtain⟨acL,xs,rfl,Lc,hF⟩:=hF.av;obtain⟨Pw,xs,rfl,DC,hF⟩:=hF.av;obtain⟨Px,xs,rfl,DE,hF⟩:=hF.av;obtain rfl:=hF.nil;clear hF;try simp only[ct,Act.put,List.setIfInBounds_toArray,List.set_cons_zero,List.set_cons_succ,List.getElem_toArray,List.getElem_cons_succ,List.getElem_cons_zero]
   obtain⟨se,Ae,ne,ce,te,Be,me,de,rfl,hq⟩:=Lc (hD 8 (by simp));replace hE:=hE.fv hq;clear hq;go_simp;refine(mD (ca:=ce) (da:=de) (cb:=cl) (db:=dl) (dI (show au _ gw (pG x (t:Int) gA gD b0 b1 j) _ from hE.uM.1.1.2)) (hE.g0) (hE.g14) je.out.b1 je.out.l5 je.out.b2).mono ?_
   rintro e W1 ⟨sf,Af,nf,cf,tf,Bf,mf,df,rfl,hv,hb⟩
   have dD:=hE.step hb;go_wp2_with fail
   refine hK.out _ _ (⟨dD.uM.1.1.2,dD.g21,dD.g16,dD.here.1.1.1.1.1.1.1.1.1.1.1.1.2⟩) ?_;exact hI.call (c:=cf) (d:=df) 1 hst rfl (by kernel_rfl) (by kernel_rfl) (by kernel_rfl) hb hv
  refine bf.cons (ds:=[]) rfl (by kernel_rfl) (fun D a W0 hI hD K hK=> ?_) ?_
  ·
   have hE:=hI.here;obtain⟨xs,rfl,-,hF,-,-⟩:=id hI;obtain⟨acL,xs,rfl,Lc,hF⟩:=hF.av;obtain⟨Pw,xs,rfl,DC,hF⟩:=hF.av;obtain⟨Px,xs,rfl,DE,hF⟩:=hF.av;obtain rfl:=hF.nil;clear hF;try simp only[ct,Act.put,List.setIfInBounds_toArray,List.set_cons_zero,List.set_cons_succ,List.getElem_toArray,List.getElem_cons_succ,List.getElem_cons_zero]
   go_simp;have dD:=hE.alloc (.cells aW 29);refine hK.out _ _ (⟨dD.iC,dD.g20,dD.g15,dD.here.1.1.1.1.1.1.1.1.1.1.1.2⟩) ?_;exact hI.alloc 2 hst rfl (by kernel_rfl) (by kernel_rfl) (by kernel_rfl)
  exact bf.nil
 clear hE hHeld oL;intro D a W9 hI hD;have hE:=hI.here;obtain⟨xs,rfl,-,hF,hA,-⟩:=id hI;clear hI;obtain⟨acL,xs,rfl,Lc,hF⟩:=hF.av;obtain⟨Pw,xs,rfl,DC,hF⟩:=hF.av;obtain⟨Px,xs,rfl,DE,hF⟩:=hF.av;obtain rfl:=hF.nil;clear hF;obtain⟨se,Ae,ne,ce,te,Be,me,de,rfl,hq8⟩:=Lc (hD 8 (by simp));obtain⟨sf,Af,nf,cf,tf,Bf,mf,df,rfl,vv⟩:=DC (hD 10 (by simp));obtain⟨kD,rfl,acM,kY⟩:=DE (hD 11 (by simp));replace hE:=(((hE.fv hq8).fv vv).ag kY);clear hA hD hq8 Lc vv DC kY DE;try simp only[ct,Act.put,List.setIfInBounds_toArray,List.set_cons_zero,List.set_cons_succ,List.getElem_toArray,List.getElem_cons_succ,List.getElem_cons_zero]
 have hHeld:(fun V=>au 125 (gw) (vp x t gA gD b0 b1 j) V/\au 29 (fX) (az sv Av nv cv tv Bv mv dv) V/\au 29 (g5) (az sp Ap np cp tp Bp mp dp) V/\au 29 (jb) (az sl Al nl cl tl Bl ml dl) V) W9:=⟨hE.nT,hE.g23,hE.g18,hE.g14⟩;refine r1 12 (fun K hK=> ?_)
 have DF:w.heap.size<=kD:=by omega
 obtain⟨Py,Pz,PB,PD⟩:=(hE.g0).c4;obtain⟨PE,PF,PG,PI⟩:=hE.g0.f4;replace hE:=((((((((((((((((((((((((((((((Env.again (bW hE.ax DF (.bool sf) (.slice Af nf cf) (.bool tf) (.slice Bf mf df))).ag ((hE.nT).aj (by omega) _ _ _ _)).fv ((hE.uM.1.1.1.2).ak hE.g0 rfl _ _ _ _ rfl rfl rfl)).fv ((hE.uM.1.1.2).ak hE.g0 rfl _ _ _ _ rfl rfl rfl)).ag ((hE.iC).aj (by omega) _ _ _ _)).fv ((hE.g24).ak hE.g0 rfl _ _ _ _ rfl rfl rfl)).ag ((hE.g23).aj (by omega) _ _ _ _)).fv ((hE.g22).ak hE.g0 rfl _ _ _ _ rfl rfl rfl)).fv ((hE.g21).ak hE.g0 rfl _ _ _ _ rfl rfl rfl)).ag ((hE.g20).aj (by omega) _ _ _ _)).ag ((hE.g19).aj (by omega) _ _ _ _)).ag ((hE.g18).aj (by omega) _ _ _ _)).fv ((hE.g17).ak hE.g0 rfl _ _ _ _ rfl rfl rfl)).fv ((hE.g16).ak hE.g0 rfl _ _ _ _ rfl rfl rfl)).fv ((hE.g15).ak hE.g0 rfl _ _ _ _ rfl rfl rfl)).ag ((hE.g14).aj (by omega) _ _ _ _)).ag ((hE.dN).aj (by omega) _ _ _ _)).fv ((hE.h12).ak hE.g0 rfl _ _ _ _ rfl rfl rfl)).ag ((hE.h11).aj (by omega) _ _ _ _)).ag ((hE.h10).aj (by omega) _ _ _ _)).ag ((hE.h9).aj (by omega) _ _ _ _)).fv ((hE.h8).ak hE.g0 rfl _ _ _ _ rfl rfl rfl)).fv ((hE.h7).ak hE.g0 rfl _ _ _ _ rfl rfl rfl)).fv ((hE.h6).ak hE.g0 rfl _ _ _ _ rfl rfl rfl)).ag ((hE.h5).aj (by omega) _ _ _ _)).ag ((hE.h4).aj (by omega) _ _ _ _)).ag ((hE.h3).aj (by omega) _ _ _ _)).fv ((hE.h2).ak hE.g0 rfl _ _ _ _ rfl rfl rfl)).fv ((hE.g1).ak hE.g0 rfl _ _ _ _ rfl rfl rfl)).ag ((hE.g0).s4 _ _ _ _));go_simp;clear Py Pz PB PD PE PF PG PI DF;generalize ((((W9.setCell ⟨kD,0,none⟩ (.bool sf)).setCell ⟨kD,1,none⟩ (.slice Af nf cf)).setCell ⟨kD,2,none⟩ (.bool tf)).setCell ⟨kD,3,none⟩ (.slice Bf mf df))=ZE at hE⊢;refine hK.out _ _ (⟨hE.nT,hE.g23,hE.g18,hE.g14⟩) (fun hHeld=> ?_);clear hK K;try simp only[PL]
 refine aX (by kernel_rfl) ?_ _
 go_upto_region 10 with(fail)
 clear hw9 ZD Pv ahy ahz ahA acB acC acD acE acF acG acH acI acJ acM
 have Cr:fl qn<=256/\fl qm<=256/\fl (qn-qm)<=256:=by rw[<-acd.out,<-agQ.out,<-agR.out];exact⟨AD (by omega) (by omega),AD (by omega) (by omega),AD (by omega) (by omega)⟩
 have tE:fl ((1:Int):Rat)<=256:=AD (by decide) (by decide);replace hE:=hE.drew;refine bH (S:=fun V=>au 125 (gw) (vp x t gA gD b0 b1 j) V/\au 29 (ie) (az sn An nn cn tn Bn mn dn) V/\au 29 (kD) (az sf Af nf cf tf Bf mf df) V) (by kernel_rfl) (⟨hE.nT,hE.h5,hE.g0⟩) (fun hHeld=> ?_)
 generalize ZE.drew=wd at*
 refine tk 0 ?_;refine tk 1 ?_;refine tk 2 ?_
 refine tk 3 ?_ (hy:=by
  intro w aG;have nR:=(aG.2.1).cell 0;have qL:=(aG.2.1).cell 1;have rS:=(aG.2.1).cell 2;have qR:=(aG.2.1).cell 3;clear aG
  first|(go_simp;done)|(go_simp;with_reducible rfl))
 try simp only[PL]
 refine tk 4 ?_ (hy:=by
  intro w aG;have nR:=(aG.2.2).cell 0;have qL:=(aG.2.2).cell 1;have rS:=(aG.2.2).cell 2;have qR:=(aG.2.2).cell 3;clear aG
  first|(go_simp;done)|(go_simp;with_reducible rfl))
 try simp only[PL]
 obtain⟨AE,mH⟩:∃B,B=wd.heap.size:=⟨_,rfl⟩
 have anM:w.heap.size<=AE:=by rw[mH];exact hE.ax.size
 have acN:gw<AE:=by rw[mH];exact(hE.nT).lt
 have iF:w.heap.size<AE:=by rw[mH];exact(hE.iC).lt
 have acO:fX<AE:=by rw[mH];exact(hE.g23).lt
 have acP:iJ<AE:=by rw[mH];exact(hE.g20).lt
 have acQ:iK<AE:=by rw[mH];exact(hE.g19).lt
 have VU:g5<AE:=by rw[mH];exact(hE.g18).lt
 have VV:jb<AE:=by rw[mH];exact(hE.g14).lt
 have VW:jN<AE:=by rw[mH];exact(hE.dN).lt
 have VX:jy<AE:=by rw[mH];exact(hE.h11).lt
 have VY:jX<AE:=by rw[mH];exact(hE.h10).lt
 have VZ:jY<AE:=by rw[mH];exact(hE.h9).lt
 have Wa:ie<AE:=by rw[mH];exact(hE.h5).lt
 have Wb:jc<AE:=by rw[mH];exact(hE.h4).lt
 have Wc:jd<AE:=by rw[mH];exact(hE.h3).lt
 have Wd:kD<AE:=by rw[mH];exact(hE.g0).lt
 refine fR (I:=ep w _ _ AE [⟨5,147,ku (qn*(qv+qp-ql))⟩,⟨6,16,kU 29 aW AE⟩]) [5,6] (f1:=1) (by kernel_rfl) (by kernel_rfl) (by kernel_rfl) rfl (by kernel_rfl) (by kernel_rfl) (by rfl) (ep.start hE mH (by kernel_rfl)) ?We ?aqL
 case We=>
  have hst:∀g∈([⟨5,147,ku (qn*(qv+qp-ql))⟩,⟨6,16,kU 29 aW AE⟩]:List cO),∀x,ck (g.R x):=(fun g hg=>by simp only[List.mem_cons,List.not_mem_nil,or_false] at hg;rcases hg with rfl|rfl<;>first|exact ku.stable _|exact kU.stable _ _ _|exact OG.stable _|exact OH.stable _)
  clear hE hHeld mH;refine bf.cons (ds:=[2,3,4]) rfl (by kernel_rfl) (fun D a W0 hI hD K hK=> ?_) ?_
  ·
   have hE:=hI.here;obtain⟨xs,rfl,-,hF,-,-⟩:=id hI;obtain⟨ZF,xs,rfl,IY,hF⟩:=hF.av;obtain⟨ZG,xs,rfl,IZ,hF⟩:=hF.av;obtain rfl:=hF.nil;clear hF;try simp only[ct,Act.put,List.setIfInBounds_toArray,List.set_cons_zero,List.set_cons_succ,List.getElem_toArray,List.getElem_cons_succ,List.getElem_cons_zero]
   go_simp;refine(iH (ca:=cn) (da:=dn) (cb:=cf) (db:=df) (dI (show au _ gw (pG x (t:Int) gA gD b0 b1 j) _ from hE.nT)) (hE.h8) (hE.g1) Cr.1 je.out.b2 je.out.b3).mono ?_
   rintro e W1 ⟨sg,Ag,ng,cg,tg,Bg,mg,dg,rfl,hv,hb⟩
   have dD:=hE.step hb;go_wp2_with fail
   refine hK.out _ _ (⟨dD.nT,dD.here.1.1.1.1.1.2,dD.g0⟩) ?_;exact hI.call (c:=cg) (d:=dg) 0 hst rfl (by kernel_rfl) (by kernel_rfl) (by kernel_rfl) hb hv
  refine bf.cons (ds:=[]) rfl (by kernel_rfl) (fun D a W0 hI hD K hK=> ?_) ?_
  ·
   have hE:=hI.here;obtain⟨xs,rfl,-,hF,-,-⟩:=id hI;obtain⟨ZF,xs,rfl,IY,hF⟩:=hF.av;obtain⟨ZG,xs,rfl,IZ,hF⟩:=hF.av;obtain rfl:=hF.nil;clear hF;try simp only[ct,Act.put,List.setIfInBounds_toArray,List.set_cons_zero,List.set_cons_succ,List.getElem_toArray,List.getElem_cons_succ,List.getElem_cons_zero]
   go_simp;have dD:=hE.alloc (.cells aW 29);refine hK.out _ _ (⟨dD.nT,dD.here.1.1.1.1.1.2,dD.g0⟩) ?_;exact hI.alloc 1 hst rfl (by kernel_rfl) (by kernel_rfl) (by kernel_rfl)
  exact bf.nil
 clear hE hHeld mH;intro D a xQ hI hD;have hE:=hI.here;obtain⟨xs,rfl,-,hF,hA,-⟩:=id hI;clear hI;obtain⟨ZF,xs,rfl,IY,hF⟩:=hF.av;obtain⟨ZG,xs,rfl,IZ,hF⟩:=hF.av;obtain rfl:=hF.nil;clear hF;obtain⟨sg,Ag,ng,cg,tg,Bg,mg,dg,rfl,Lb⟩:=IY (hD 5 (by simp));obtain⟨om,rfl,acR,hq6⟩:=IZ (hD 6 (by simp));replace hE:=((hE.fv Lb).ag hq6);clear hA hD Lb IY hq6 IZ;try simp only[ct,Act.put,List.setIfInBounds_toArray,List.set_cons_zero,List.set_cons_succ,List.getElem_toArray,List.getElem_cons_succ,List.getElem_cons_zero]
 have hHeld:(fun V=>au 125 (gw) (vp x t gA gD b0 b1 j) V/\au 29 (ie) (az sn An nn cn tn Bn mn dn) V/\au 29 (kD) (az sf Af nf cf tf Bf mf df) V) xQ:=⟨hE.kr,hE.h7,hE.h2⟩;refine r1 7 (fun K hK=> ?_)
 have oq:w.heap.size<=om:=by omega
 obtain⟨vC,vD,DG,DH⟩:=(hE.g0).c4;obtain⟨vE,vF,DI,DJ⟩:=hE.g0.f4;replace hE:=((((((((((((((((((((((((((((((((Env.again (bW hE.ax oq (.bool sg) (.slice Ag ng cg) (.bool tg) (.slice Bg mg dg))).ag ((hE.kr).aj (by omega) _ _ _ _)).fv ((hE.uM.1.1.1.1.1.2).ak hE.g0 rfl _ _ _ _ rfl rfl rfl)).fv ((hE.nT).ak hE.g0 rfl _ _ _ _ rfl rfl rfl)).ag ((hE.uM.1.1.1.2).aj (by omega) _ _ _ _)).fv ((hE.uM.1.1.2).ak hE.g0 rfl _ _ _ _ rfl rfl rfl)).ag ((hE.iC).aj (by omega) _ _ _ _)).fv ((hE.g24).ak hE.g0 rfl _ _ _ _ rfl rfl rfl)).fv ((hE.g23).ak hE.g0 rfl _ _ _ _ rfl rfl rfl)).ag ((hE.g22).aj (by omega) _ _ _ _)).ag ((hE.g21).aj (by omega) _ _ _ _)).ag ((hE.g20).aj (by omega) _ _ _ _)).fv ((hE.g19).ak hE.g0 rfl _ _ _ _ rfl rfl rfl)).fv ((hE.g18).ak hE.g0 rfl _ _ _ _ rfl rfl rfl)).fv ((hE.g17).ak hE.g0 rfl _ _ _ _ rfl rfl rfl)).ag ((hE.g16).aj (by omega) _ _ _ _)).ag ((hE.g15).aj (by omega) _ _ _ _)).fv ((hE.g14).ak hE.g0 rfl _ _ _ _ rfl rfl rfl)).ag ((hE.dN).aj (by omega) _ _ _ _)).ag ((hE.h12).aj (by omega) _ _ _ _)).ag ((hE.h11).aj (by omega) _ _ _ _)).fv ((hE.h10).ak hE.g0 rfl _ _ _ _ rfl rfl rfl)).fv ((hE.h9).ak hE.g0 rfl _ _ _ _ rfl rfl rfl)).fv ((hE.h8).ak hE.g0 rfl _ _ _ _ rfl rfl rfl)).ag ((hE.h7).aj (by omega) _ _ _ _)).ag ((hE.h6).aj (by omega) _ _ _ _)).ag ((hE.h5).aj (by omega) _ _ _ _)).fv ((hE.h4).ak hE.g0 rfl _ _ _ _ rfl rfl rfl)).fv ((hE.h3).ak hE.g0 rfl _ _ _ _ rfl rfl rfl)).ag ((hE.h2).aj (by omega) _ _ _ _)).fv ((hE.g1).ak hE.g0 rfl _ _ _ _ rfl rfl rfl)).ag ((hE.g0).s4 _ _ _ _));go_simp;clear vC vD DG DH vE vF DI DJ oq;generalize ((((xQ.setCell ⟨om,0,none⟩ (.bool sg)).setCell ⟨om,1,none⟩ (.slice Ag ng cg)).setCell ⟨om,2,none⟩ (.bool tg)).setCell ⟨om,3,none⟩ (.slice Bg mg dg))=W20 at hE⊢;refine hK.out _ _ (⟨hE.kr,hE.h7,hE.h2⟩) (fun hHeld=> ?_);clear hK K;try simp only[PL]
 refine aX (by kernel_rfl) ?_ _
 go_upto_region 11 with(fail)
 clear anM acN iF acO acP acQ VU VV VW VX VY VZ Wa Wb Wc Wd acR
 go_cut [17] from 131 to 159 (fun p0 wx=>∃iM Zr Zt Zv co1 Zs Zu Zw do1 sh Ah nh ch th Bh mh dh sw Aw nw cw tw Bw mw dw,p0= .pointer (some ⟨iM,0,none⟩)/\Env w (fun V=>(((((((((((((((((((((((((((((((((((True/\au 125 (gw) (vp x t gA gD b0 b1 j) V)/\FV V qi b0.i.s b0.i.A b0.i.n b0.i.t b0.i.B b0.i.m)/\FV V qj j.s j.A j.n j.t j.B j.m)/\au 126 (w.heap.size) #[.bool false,.slice none 0 0,.bool false,.slice none 0 0,.bool false,.slice none 0 0,.bool false,.slice none 0 0,.bool false,.slice none 0 0,.bool false,.slice none 0 0,.bool false,.slice none 0 0,.bool false,.slice none 0 0,.bool false,.slice none 0 0,.bool false,.slice none 0 0,.bool false,.slice none 0 0,.bool false,.slice none 0 0,.bool false,.slice none 0 0,.bool false,.slice none 0 0,.bool false,.slice none 0 0,.bool false,.slice none 0 0,.bool false,.slice none 0 0,.bool false,.slice none 0 0,.bool false,.slice none 0 0,.bool false,.slice none 0 0] V)/\FV V qv sv Av nv tv Bv mv)/\au 29 (fX) (az sv Av nv cv tv Bv mv dv) V)/\FV V qa sa Aa na ta Ba ma)/\FV V qu su Au nu tu Bu mu)/\au 29 (iJ) (az sa Aa na ca ta Ba ma da) V)/\au 29 (iK) (az su Au nu cu tu Bu mu du) V)/\au 29 (g5) (az sp Ap np cp tp Bp mp dp) V)/\FV V qp sp Ap np tp Bp mp)/\FV V ql sl Al nl tl Bl ml)/\FV V qd sd Ad nd td Bd md)/\au 29 (jb) (az sl Al nl cl tl Bl ml dl) V)/\au 29 (jN) (az sd Ad nd cd td Bd md dd) V)/\FV V qq sq Aq nq tq Bq mq)/\au 29 (jy) (az b0.i.s b0.i.A b0.i.n b0.i.c b0.i.t b0.i.B b0.i.m b0.i.d) V)/\au 29 (jX) (az j.s j.A j.n j.c j.t j.B j.m j.d) V)/\au 29 (jY) (az sq Aq nq cq tq Bq mq dq) V)/\FV V qn sn An nn tn Bn mn)/\FV V qm sm Am nm tm Bm mm)/\FV V (qn-qm) sr Ar nr tr Br mr)/\au 29 (ie) (az sn An nn cn tn Bn mn dn) V)/\au 29 (jc) (az sm Am nm cm tm Bm mm dm) V)/\au 29 (jd) (az sr Ar nr cr tr Br mr dr) V)/\FV V (qv+qp) se Ae ne te Be me)/\FV V (qv+qp-ql) sf Af nf tf Bf mf)/\au 29 (kD) (az sf Af nf cf tf Bf mf df) V)/\FV V (qn*(qv+qp-ql)) sg Ag ng tg Bg mg)/\au 29 (om) (az sg Ag ng cg tg Bg mg dg) V)/\FV V ((1:Int):Rat) Zr Zt Zv Zs Zu Zw)/\FV V (((1:Int):Rat)+qi) sh Ah nh th Bh mh)/\FV V ((qv+qp-ql)*(1+qi)) sw Aw nw tw Bw mw)/\au 29 (iM) (az sw Aw nw cw tw Bw mw dw) V)) wx)
 case first=>
  replace hE:=hE.drew;refine bH (S:=fun V=>au 125 (gw) (vp x t gA gD b0 b1 j) V/\au 29 (kD) (az sf Af nf cf tf Bf mf df) V/\au 29 (jy) (az b0.i.s b0.i.A b0.i.n b0.i.c b0.i.t b0.i.B b0.i.m b0.i.d) V) (by kernel_rfl) (⟨hE.kr,hE.h2,hE.dN⟩) (fun hHeld=> ?_)
  generalize W20.drew=wd at*
  refine tk 0 ?_;refine tk 1 ?_;refine tk 2 ?_
  refine tk 3 ?_ (hy:=by
   intro w aG;have nR:=(aG.2.1).cell 0;have qL:=(aG.2.1).cell 1;have rS:=(aG.2.1).cell 2;have qR:=(aG.2.1).cell 3;clear aG
   first|(go_simp;done)|(go_simp;with_reducible rfl))
  try simp only[PL]
  refine tk 4 ?_;refine tk 5 ?_;refine tk 6 ?_
  refine tk 8 ?_ (hy:=by
   intro w aG;have nR:=(aG.2.2).cell 0;have qL:=(aG.2.2).cell 1;have rS:=(aG.2.2).cell 2;have qR:=(aG.2.2).cell 3;clear aG
   first|(go_simp;done)|(go_simp;with_reducible rfl))
  try simp only[PL]
  obtain⟨yw,kZ⟩:∃B,B=wd.heap.size:=⟨_,rfl⟩
  have asB:w.heap.size<=yw:=by rw[kZ];exact hE.ax.size
  have Ox:gw<yw:=by rw[kZ];exact(hE.kr).lt
  have acS:w.heap.size<yw:=by rw[kZ];exact(hE.uM.1.1.1.2).lt
  have anN:fX<yw:=by rw[kZ];exact(hE.iC).lt
  have anO:iJ<yw:=by rw[kZ];exact(hE.g22).lt
  have acT:iK<yw:=by rw[kZ];exact(hE.g21).lt
  have Wf:g5<yw:=by rw[kZ];exact(hE.g20).lt
  have akP:jb<yw:=by rw[kZ];exact(hE.g16).lt
  have akQ:jN<yw:=by rw[kZ];exact(hE.g15).lt
  have akR:jy<yw:=by rw[kZ];exact(hE.dN).lt
  have akS:jX<yw:=by rw[kZ];exact(hE.h12).lt
  have akT:jY<yw:=by rw[kZ];exact(hE.h11).lt
  have akU:ie<yw:=by rw[kZ];exact(hE.h7).lt
  have akV:jc<yw:=by rw[kZ];exact(hE.h6).lt
  have akW:jd<yw:=by rw[kZ];exact(hE.h5).lt
  have akX:kD<yw:=by rw[kZ];exact(hE.h2).lt
  have akY:om<yw:=by rw[kZ];exact(hE.g0).lt
  refine fR (I:=ep w _ _ yw [⟨7,155,ku ((1:Int):Rat)⟩,⟨9,157,ku (((1:Int):Rat)+qi)⟩,⟨10,158,ku ((qv+qp-ql)*(1+qi))⟩,⟨11,17,kU 29 aW yw⟩]) [7,9,10,11] (f1:=1) (by kernel_rfl) (by kernel_rfl) (by kernel_rfl) rfl (by kernel_rfl) (by kernel_rfl) (by rfl) (ep.start hE kZ (by kernel_rfl)) ?Wg ?aqM
  case Wg=>
   have hst:∀g∈([⟨7,155,ku ((1:Int):Rat)⟩,⟨9,157,ku (((1:Int):Rat)+qi)⟩,⟨10,158,ku ((qv+qp-ql)*(1+qi))⟩,⟨11,17,kU 29 aW yw⟩]:List cO),∀x,ck (g.R x):=(fun g hg=>by simp only[List.mem_cons,List.not_mem_nil,or_false] at hg;rcases hg with rfl|rfl|rfl|rfl<;>first|exact ku.stable _|exact kU.stable _ _ _|exact OG.stable _|exact OH.stable _)
   clear hE hHeld kZ;refine bf.cons (ds:=[]) rfl (by kernel_rfl) (fun D a W0 hI hD K hK=> ?_) ?_
   ·
    have hE:=hI.here;obtain⟨xs,rfl,-,hF,-,-⟩:=id hI;obtain⟨Ja,xs,rfl,vG,hF⟩:=hF.av;obtain⟨Jb,xs,rfl,vH,hF⟩:=hF.av;obtain⟨AF,xs,rfl,sA,hF⟩:=hF.av;obtain⟨AG,xs,rfl,sB,hF⟩:=hF.av;obtain rfl:=hF.nil;clear hF;try simp only[ct,Act.put,List.setIfInBounds_toArray,List.set_cons_zero,List.set_cons_succ,List.getElem_toArray,List.getElem_cons_succ,List.getElem_cons_zero]
    go_simp;refine(bg 1 _ (by decide) (by decide)).mono ?_
    rintro e W1 ⟨Zr,Zt,Zv,co1,Zs,Zu,Zw,do1,rfl,hv,hb⟩
    have dD:=hE.step hb;go_wp2_with fail
    refine hK.out _ _ (⟨dD.kr,dD.here.1.1.2,dD.here.1.1.1.1.1.1.1.1.1.1.1.1.1.2⟩) ?_;exact hI.call (c:=co1) (d:=do1) 0 hst rfl (by kernel_rfl) (by kernel_rfl) (by kernel_rfl) hb hv
   refine bf.cons (ds:=[6,7,8,7]) rfl (by kernel_rfl) (fun D a W0 hI hD K hK=> ?_) ?_
   ·
    have hE:=hI.here;obtain⟨xs,rfl,-,hF,-,-⟩:=id hI;obtain⟨Ja,xs,rfl,vG,hF⟩:=hF.av;obtain⟨Jb,xs,rfl,vH,hF⟩:=hF.av;obtain⟨AF,xs,rfl,sA,hF⟩:=hF.av;obtain⟨AG,xs,rfl,sB,hF⟩:=hF.av;obtain rfl:=hF.nil;clear hF;try simp only[ct,Act.put,List.setIfInBounds_toArray,List.set_cons_zero,List.set_cons_succ,List.getElem_toArray,List.getElem_cons_succ,List.getElem_cons_zero]
    obtain⟨Zr,Zt,Zv,co1,Zs,Zu,Zw,do1,rfl,hq⟩:=vG (hD 7 (by simp));replace hE:=hE.fv hq;clear hq;go_simp;refine(mC (ca:=co1) (da:=do1) (cb:=b0.i.c) (db:=b0.i.d) (dI (show au _ gw (pG x (t:Int) gA gD b0 b1 j) _ from hE.uM.1.1.1.1.1.1.1.2)) (hE.g0) (hE.kr) tE je.out.l7 je.out.b4).mono ?_
    rintro e W1 ⟨sh,Ah,nh,ch,th,Bh,mh,dh,rfl,hv,hb⟩
    have dD:=hE.step hb;go_wp2_with fail
    refine hK.out _ _ (⟨dD.uM.1.1.1.1.1.1.1.2,dD.here.1.1.1.2,dD.g14⟩) ?_;exact hI.call (c:=ch) (d:=dh) 1 hst rfl (by kernel_rfl) (by kernel_rfl) (by kernel_rfl) hb hv
   refine bf.cons (ds:=[2,3,9,9]) rfl (by kernel_rfl) (fun D a W0 hI hD K hK=> ?_) ?_
   ·
    have hE:=hI.here;obtain⟨xs,rfl,-,hF,-,-⟩:=id hI;obtain⟨Ja,xs,rfl,vG,hF⟩:=hF.av;obtain⟨Jb,xs,rfl,vH,hF⟩:=hF.av;obtain⟨AF,xs,rfl,sA,hF⟩:=hF.av;obtain⟨AG,xs,rfl,sB,hF⟩:=hF.av;obtain rfl:=hF.nil;clear hF;try simp only[ct,Act.put,List.setIfInBounds_toArray,List.set_cons_zero,List.set_cons_succ,List.getElem_toArray,List.getElem_cons_succ,List.getElem_cons_zero]
    obtain⟨sh,Ah,nh,ch,th,Bh,mh,dh,rfl,hq⟩:=vH (hD 9 (by simp));replace hE:=hE.fv hq;clear hq;go_simp;refine(iH (ca:=cf) (da:=df) (cb:=ch) (db:=dh) (dI (show au _ gw (pG x (t:Int) gA gD b0 b1 j) _ from hE.uM.1.1.1.1.1.1.1.2)) (hE.h4) (hE.g0) je.out.b2 je.out.b4 je.out.b5).mono ?_
    rintro e W1 ⟨sw,Aw,nw,cw,tw,Bw,mw,dw,rfl,hv,hb⟩
    have dD:=hE.step hb;go_wp2_with fail
    refine hK.out _ _ (⟨dD.uM.1.1.1.1.1.1.1.2,dD.here.1.1.1.2,dD.g14⟩) ?_;exact hI.call (c:=cw) (d:=dw) 2 hst rfl (by kernel_rfl) (by kernel_rfl) (by kernel_rfl) hb hv
   refine bf.cons (ds:=[]) rfl (by kernel_rfl) (fun D a W0 hI hD K hK=> ?_) ?_
   ·
    have hE:=hI.here;obtain⟨xs,rfl,-,hF,-,-⟩:=id hI;obtain⟨Ja,xs,rfl,vG,hF⟩:=hF.av;obtain⟨Jb,xs,rfl,vH,hF⟩:=hF.av;obtain⟨AF,xs,rfl,sA,hF⟩:=hF.av;obtain⟨AG,xs,rfl,sB,hF⟩:=hF.av;obtain rfl:=hF.nil;clear hF;try simp only[ct,Act.put,List.setIfInBounds_toArray,List.set_cons_zero,List.set_cons_succ,List.getElem_toArray,List.getElem_cons_succ,List.getElem_cons_zero]
    go_simp;have dD:=hE.alloc (.cells aW 29);refine hK.out _ _ (⟨dD.kr,dD.here.1.1.2,dD.here.1.1.1.1.1.1.1.1.1.1.1.1.1.2⟩) ?_;exact hI.alloc 3 hst rfl (by kernel_rfl) (by kernel_rfl) (by kernel_rfl)
   exact bf.nil
  clear hE hHeld kZ;intro D a W11 hI hD;have hE:=hI.here;obtain⟨xs,rfl,-,hF,hA,-⟩:=id hI;clear hI;obtain⟨Ja,xs,rfl,vG,hF⟩:=hF.av;obtain⟨Jb,xs,rfl,vH,hF⟩:=hF.av;obtain⟨AF,xs,rfl,sA,hF⟩:=hF.av;obtain⟨AG,xs,rfl,sB,hF⟩:=hF.av;obtain rfl:=hF.nil;clear hF;obtain⟨Zr,Zt,Zv,co1,Zs,Zu,Zw,do1,rfl,hq7⟩:=vG (hD 7 (by simp));obtain⟨sh,Ah,nh,ch,th,Bh,mh,dh,rfl,hq9⟩:=vH (hD 9 (by simp));obtain⟨sw,Aw,nw,cw,tw,Bw,mw,dw,rfl,vv⟩:=sA (hD 10 (by simp));obtain⟨iM,rfl,akZ,kY⟩:=sB (hD 11 (by simp));replace hE:=((((hE.fv hq7).fv hq9).fv vv).ag kY);clear hA hD hq7 vG hq9 vH vv sA kY sB;try simp only[ct,Act.put,List.setIfInBounds_toArray,List.set_cons_zero,List.set_cons_succ,List.getElem_toArray,List.getElem_cons_succ,List.getElem_cons_zero]
  have hHeld:(fun V=>au 125 (gw) (vp x t gA gD b0 b1 j) V/\au 29 (kD) (az sf Af nf cf tf Bf mf df) V/\au 29 (jy) (az b0.i.s b0.i.A b0.i.n b0.i.c b0.i.t b0.i.B b0.i.m b0.i.d) V) W11:=⟨hE.AB.1.1.2,hE.h6,hE.g17⟩;refine r1 12 (fun K hK=> ?_)
  have ZH:w.heap.size<=iM:=by omega
  obtain⟨ahB,ahC,ahD,ahE⟩:=(hE.g0).c4;obtain⟨ahF,ahG,ahH,ahI⟩:=hE.g0.f4;replace hE:=((((((((((((((((((((((((((((((((((((Env.again (bW hE.ax ZH (.bool sw) (.slice Aw nw cw) (.bool tw) (.slice Bw mw dw))).ag ((hE.AB.1.1.2).aj (by omega) _ _ _ _)).fv ((hE.AB.1.2).ak hE.g0 rfl _ _ _ _ rfl rfl rfl)).fv ((hE.AB.2).ak hE.g0 rfl _ _ _ _ rfl rfl rfl)).ag ((hE.uM.1.1.1.1.1.1.1.2).aj (by omega) _ _ _ _)).fv ((hE.kr).ak hE.g0 rfl _ _ _ _ rfl rfl rfl)).ag ((hE.uM.1.1.1.1.1.2).aj (by omega) _ _ _ _)).fv ((hE.nT).ak hE.g0 rfl _ _ _ _ rfl rfl rfl)).fv ((hE.uM.1.1.1.2).ak hE.g0 rfl _ _ _ _ rfl rfl rfl)).ag ((hE.uM.1.1.2).aj (by omega) _ _ _ _)).ag ((hE.iC).aj (by omega) _ _ _ _)).ag ((hE.g24).aj (by omega) _ _ _ _)).fv ((hE.g23).ak hE.g0 rfl _ _ _ _ rfl rfl rfl)).fv ((hE.g22).ak hE.g0 rfl _ _ _ _ rfl rfl rfl)).fv ((hE.g21).ak hE.g0 rfl _ _ _ _ rfl rfl rfl)).ag ((hE.g20).aj (by omega) _ _ _ _)).ag ((hE.g19).aj (by omega) _ _ _ _)).fv ((hE.g18).ak hE.g0 rfl _ _ _ _ rfl rfl rfl)).ag ((hE.g17).aj (by omega) _ _ _ _)).ag ((hE.g16).aj (by omega) _ _ _ _)).ag ((hE.g15).aj (by omega) _ _ _ _)).fv ((hE.g14).ak hE.g0 rfl _ _ _ _ rfl rfl rfl)).fv ((hE.dN).ak hE.g0 rfl _ _ _ _ rfl rfl rfl)).fv ((hE.h12).ak hE.g0 rfl _ _ _ _ rfl rfl rfl)).ag ((hE.h11).aj (by omega) _ _ _ _)).ag ((hE.h10).aj (by omega) _ _ _ _)).ag ((hE.h9).aj (by omega) _ _ _ _)).fv ((hE.h8).ak hE.g0 rfl _ _ _ _ rfl rfl rfl)).fv ((hE.h7).ak hE.g0 rfl _ _ _ _ rfl rfl rfl)).ag ((hE.h6).aj (by omega) _ _ _ _)).fv ((hE.h5).ak hE.g0 rfl _ _ _ _ rfl rfl rfl)).ag ((hE.h4).aj (by omega) _ _ _ _)).fv ((hE.h3).ak hE.g0 rfl _ _ _ _ rfl rfl rfl)).fv ((hE.h2).ak hE.g0 rfl _ _ _ _ rfl rfl rfl)).fv ((hE.g1).ak hE.g0 rfl _ _ _ _ rfl rfl rfl)).ag ((hE.g0).s4 _ _ _ _));go_simp
  clear ahB ahC ahD ahE ahF ahG ahH ahI ZH;generalize ((((W11.setCell ⟨iM,0,none⟩ (.bool sw)).setCell ⟨iM,1,none⟩ (.slice Aw nw cw)).setCell ⟨iM,2,none⟩ (.bool tw)).setCell ⟨iM,3,none⟩ (.slice Bw mw dw))=W21 at hE⊢;refine hK.out _ _ (⟨hE.AB.1.1.2,hE.h6,hE.g17⟩) (fun hHeld=> ?_);clear hK K;try simp only[PL]
  refine aX (by kernel_rfl) ?_ _;go_wp2_with fail
  go_meet
  exact⟨iM,Zr,Zt,Zv,co1,Zs,Zu,Zw,do1,sh,Ah,nh,ch,th,Bh,mh,dh,sw,Aw,nw,cw,tw,Bw,mw,dw,rfl,((((((((((((((((((((((((((((((((((((Env.again hE.ax).ag (hE.AB.1.1.2)).fv (hE.AB.1.2)).fv (hE.AB.2)).ag (hE.uM.1.1.1.1.1.1.1.2)).fv (hE.kr)).ag (hE.uM.1.1.1.1.1.2)).fv (hE.nT)).fv (hE.uM.1.1.1.2)).ag (hE.uM.1.1.2)).ag (hE.iC)).ag (hE.g24)).fv (hE.g23)).fv (hE.g22)).fv (hE.g21)).ag (hE.g20)).ag (hE.g19)).fv (hE.g18)).ag (hE.g17)).ag (hE.g16)).ag (hE.g15)).fv (hE.g14)).fv (hE.dN)).fv (hE.h12)).ag (hE.h11)).ag (hE.h10)).ag (hE.h9)).fv (hE.h8)).fv (hE.h7)).ag (hE.h6)).fv (hE.h5)).ag (hE.h4)).fv (hE.h3)).fv (hE.h2)).fv (hE.g1)).ag (hE.g0))⟩
 case rest=>
 clear hE;obtain⟨iM,Zr,Zt,Zv,co1,Zs,Zu,Zw,do1,sh,Ah,nh,ch,th,Bh,mh,dh,sw,Aw,nw,cw,tw,Bw,mw,dw,rfl,hE⟩:=hcut;generalize wc=aga at hE⊢
 go_upto_region 12 with(fail)
 refine ab7 hE je.out acd.out Cr (Kn.of rfl rfl ⟨rfl,rfl,rfl,rfl,rfl,rfl,rfl,rfl,rfl,rfl,rfl,rfl,rfl,rfl,rfl,rfl,trivial⟩) (fun _ _ _ _ _ h=>h) ?hend
 case hend=>
  intro a U hh ha hd9 vk hF aM;go_wp2_with fail
  refine aK (v:= .agg (xp hh).toArray) (qU Tryz.results96 ha (run_loadVar_mid _ _ 0 _ (xp hh) _ (fun j v hv=>by rw[fk,vk.cell j,mI];exact hv) Tryz.underlying126 rfl (by kernel_rfl))) hd9 ?_;exact⟨hh,rfl,hF,aM⟩
theorem acU {x:Ct}{gw:Nat}{gA gD:Int}{b0 b1:Bh}{j:FH}{t:Nat}{w:World}(hb:b0.rd w)(hd:b1.rd w)(hx:x.rd w)(hj:j.rd w)(nS:b0.bd)(hdb:b1.bd)(jw:x.bd)(hS:KQ b0 b1 ⟨x,(t:Int),gA,gD⟩)(hJ:VS j)(hW:au 125 gw (pG x (t:Int) gA gD b0 b1 j) w):
  Calls Tryz.prog 96 #[.pointer (some ⟨gw,0,none⟩)] w (agM (Wh b0 b1 j.q ⟨x,(t:Int),gA,gD⟩) w):=
 VQ rfl rfl rfl rfl rfl rfl rfl rfl rfl rfl rfl rfl hb hd hx hj nS hdb jw hS hJ hW (ZI hS hb hd hx hJ hj)
end Go.Proofs.YtclbiihcbfnjmaaGreat
