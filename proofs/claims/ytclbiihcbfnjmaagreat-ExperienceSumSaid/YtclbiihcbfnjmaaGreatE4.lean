/-
  Parts.
-/
import Derived.Test.YtclbiihcbfnjmaaGreatK2
import Derived.Test.YtclbiihcbfnjmaaGreatK8
import Derived.Test.YtclbiihcbfnjmaaGreatE3
import Derived.Test.YtclbiihcbfnjmaaGreatIv
import Derived.Test.YtclbiihcbfnjmaaGreatFk
import Derived.Test.YtclbiihcbfnjmaaGreatEYL
import Derived.Test.YtclbiihcbfnjmaaGreatPA
set_option maxRecDepth 1000000
set_option maxHeartbeats 16000000
set_option linter.unusedSimpArgs false
namespace Go.Proofs.YtclbiihcbfnjmaaGreat
open Go.RowKit

abbrev wkE (x:Ct)(t:Nat)(gA gD:Int)(b0 b1:Bh)(j:FH):Array Value:=#[.int .i64 0,.int .i64 x.E,.int .i64 x.Y,.int .i64 x.T,.bool x.p.s,.slice x.p.A x.p.n x.p.c,.bool x.p.t,.slice x.p.B x.p.m x.p.d,.slice x.A x.n x.c,.slice x.B x.m x.d,.int .i64 (t:Int),.int .i64 gA,.int .i64 gD,.int .i64 b0.F,.int .i64 b0.S,.slice b0.A b0.n b0.c,.bool b0.i.s,.slice b0.i.A b0.i.n b0.i.c,.bool b0.i.t,.slice b0.i.B b0.i.m b0.i.d,.int .i64 b1.F,.int .i64 b1.S,.slice b1.A b1.n b1.c,.bool b1.i.s,.slice b1.i.A b1.i.n b1.i.c,.bool b1.i.t,.slice b1.i.B b1.i.m b1.i.d,.bool j.s,.slice j.A j.n j.c,.bool j.t,.slice j.B j.m j.d]
abbrev qC (h:FH):List Value:=[.bool h.s,.slice h.A h.n h.c,.bool h.t,.slice h.B h.m h.d]
abbrev sumC (h:Nat->FH):List Value:=qC (h 0)++(qC (h 1)++(qC (h 2)++(qC (h 3)++(qC (h 4)++(qC (h 5)++(qC (h 6)++(qC (h 7)++(qC (h 8)++qC (h 9)))))))))
def fh10 (a b c d e f g h i j:FH):Nat->FH
 |0=>a|1=>b|2=>c|3=>d|4=>e|5=>f|6=>g|7=>h|8=>i|_=>j
def SumR (it:Nat->Rat)(w:World)(e:Ending)(w':World):Prop:=∃h:Nat->FH,e= .returned (.agg (sumC h).toArray)/\(∀k,k<10->FV w' (it k) (h k).s (h k).A (h k).n (h k).t (h k).B (h k).m)/\Below w.heap.size w w'
theorem st_step {P:Program}{w w':World}{o:Oper}{a:Act}{K:Act->World->Prop}{Q:Exit->Act->World->Prop}{ty:TypeId}{x y:Operand}{p v:Value}(hr:(Instr.storeAt ty p v).run P w= .ok () w')(ho:o.op= .store ty x y)(hx:a.eval x=p)(hy:a.eval y=v)(h:K (a.put o.dst undef) w'):o.wp P a w K Q:=by
 unfold Oper.wp execOp;simp only[ho,hx,hy,Sem.run_bind,Sem.run_pure,Result.andThen_ok,hr];exact h
theorem calls_fr {p:Program}{f:FuncId}{args:Array Value}{w:World}{q r:Rat}(e:q=r)(h:Calls p f args w (FR q w)):Calls p f args w (FR r w):=e▸h
theorem results_cell {P:Program}{fn:Func}{tmps:Array Value}{w:World}{a:Tmp}{t:TypeId}{p:Addr}{v:Value}(hf:fn.results=#[.cell a t])(ha:tmps.getD a undef= .pointer (some p))(hl:(loadVar t p).run P w= .ok v w):(results fn tmps).run P w= .ok v w:=by
 unfold results;rw[hf]
 have ha2:tmps[a]?.getD undef= .pointer (some p):=by simpa using ha
 simp[ha2,asAddr,hl]
theorem sumC_one (h:Nat->FH):∀v∈sumC h,v.oneCell'=true:=fun v hv=>by
 simp only[sumC,qC,List.cons_append,List.nil_append,List.mem_cons,List.not_mem_nil,or_false] at hv
 rcases hv with rfl|rfl|rfl|rfl|rfl|rfl|rfl|rfl|rfl|rfl|rfl|rfl|rfl|rfl|rfl|rfl|rfl|rfl|rfl|rfl|rfl|rfl|rfl|rfl|rfl|rfl|rfl|rfl|rfl|rfl|rfl|rfl|rfl|rfl|rfl|rfl|rfl|rfl|rfl|rfl<;>rfl
noncomputable def esReg:Code:=(Tryz.f96.body.bind (fkReg 12)).getD .skip
noncomputable def esOps:Array Oper:=match esReg with
 | .region _ o _=>o
 |_=>#[]
theorem es0 :fkSeg .any esOps (fkL 97 0) [(true,0),(true,1),(true,2),(true,3),(true,4),(true,6),(true,7),(true,8)]=true:=by kernel_rfl
theorem es1 :fkSeg .any esOps (fkL 97 479) [(true,9),(true,10),(true,12),(true,13),(true,14),(true,15),(true,16),(true,18)]=true:=by kernel_rfl
theorem es2 :fkSeg .any esOps (fkL 97 391135) [(true,19),(true,20),(true,21),(true,22),(true,24),(true,25),(true,26),(true,27)]=true:=by kernel_rfl
theorem es3 :fkSeg .any esOps (fkL 97 259913695) [(true,28),(true,30),(true,31),(true,32),(true,33),(true,34),(true,36),(true,37)]=true:=by kernel_rfl
theorem es4 :fkSeg .any esOps (fkL 97 239972775903) [(true,38),(true,39),(true,40),(true,41),(true,42),(true,43),(true,44),(true,47)]=true:=by kernel_rfl
theorem es5 :fkSeg .any esOps (fkL 97 175886955313119) [(true,48),(true,49),(true,50),(true,51),(true,52),(true,53),(true,54),(true,55)]=true:=by kernel_rfl
theorem es6 :fkSeg .any esOps (fkL 97 71952006016530399) [(true,58),(true,59),(true,60),(true,61),(true,62),(true,63),(true,64),(true,65)]=true:=by kernel_rfl
theorem es7 :fkSeg .any esOps (fkL 97 73570697924703025119) [(true,66),(true,67),(true,68),(true,70),(true,72),(true,73),(true,74),(true,75)]=true:=by kernel_rfl
theorem es8 :fkSeg .any esOps (fkL 97 72606168395750659979231) [(true,76),(true,79),(true,80),(true,81),(true,82),(true,83),(true,84),(true,85)]=true:=by kernel_rfl
theorem es9 :fkSeg .any esOps (fkL 97 76914953577650617577240543) [(true,86),(true,88),(true,89),(true,90),(true,91),(true,92),(false,5),(false,11)]=true:=by kernel_rfl
theorem es10 :fkSeg .any esOps (fkL 97 9748321510494684015226650623) [(false,17),(false,23),(false,29),(false,35),(false,45),(false,46),(false,56),(false,57)]=true:=by kernel_rfl
theorem es11 :fkSeg .any esOps (fkL 97 9748321510710962385361829887) [(false,69),(false,71),(false,77),(false,78),(false,87),(false,93),(false,94),(true,95)]=true:=by kernel_rfl
theorem es12 :fkSeg .any esOps (fkL 97 79228162514264337593543950335) [(false,96)]=true:=by kernel_rfl
theorem esPlan :fkPlan .any esOps (fkL 97 0) [(true,0),(true,1),(true,2),(true,3),(true,4),(true,6),(true,7),(true,8),(true,9),(true,10),(true,12),(true,13),(true,14),(true,15),(true,16),(true,18),(true,19),(true,20),(true,21),(true,22),(true,24),(true,25),(true,26),(true,27),(true,28),(true,30),(true,31),(true,32),(true,33),(true,34),(true,36),(true,37),(true,38),(true,39),(true,40),(true,41),(true,42),(true,43),(true,44),(true,47),(true,48),(true,49),(true,50),(true,51),(true,52),(true,53),(true,54),(true,55),(true,58),(true,59),(true,60),(true,61),(true,62),(true,63),(true,64),(true,65),(true,66),(true,67),(true,68),(true,70),(true,72),(true,73),(true,74),(true,75),(true,76),(true,79),(true,80),(true,81),(true,82),(true,83),(true,84),(true,85),(true,86),(true,88),(true,89),(true,90),(true,91),(true,92),(false,5),(false,11),(false,17),(false,23),(false,29),(false,35),(false,45),(false,46),(false,56),(false,57),(false,69),(false,71),(false,77),(false,78),(false,87),(false,93),(false,94),(true,95),(false,96)]=true:=
 show fkPlan .any esOps (fkL 97 0) ([(true,0),(true,1),(true,2),(true,3),(true,4),(true,6),(true,7),(true,8)]++([(true,9),(true,10),(true,12),(true,13),(true,14),(true,15),(true,16),(true,18)]++([(true,19),(true,20),(true,21),(true,22),(true,24),(true,25),(true,26),(true,27)]++([(true,28),(true,30),(true,31),(true,32),(true,33),(true,34),(true,36),(true,37)]++([(true,38),(true,39),(true,40),(true,41),(true,42),(true,43),(true,44),(true,47)]++([(true,48),(true,49),(true,50),(true,51),(true,52),(true,53),(true,54),(true,55)]++([(true,58),(true,59),(true,60),(true,61),(true,62),(true,63),(true,64),(true,65)]++([(true,66),(true,67),(true,68),(true,70),(true,72),(true,73),(true,74),(true,75)]++([(true,76),(true,79),(true,80),(true,81),(true,82),(true,83),(true,84),(true,85)]++([(true,86),(true,88),(true,89),(true,90),(true,91),(true,92),(false,5),(false,11)]++([(false,17),(false,23),(false,29),(false,35),(false,45),(false,46),(false,56),(false,57)]++([(false,69),(false,71),(false,77),(false,78),(false,87),(false,93),(false,94),(true,95)]++([(false,96)]++ [])))))))))))))=true from(fkSeg.app es0 (L':=fkL 97 479) (by kernel_rfl) (fkSeg.app es1 (L':=fkL 97 391135) (by kernel_rfl) (fkSeg.app es2 (L':=fkL 97 259913695) (by kernel_rfl) (fkSeg.app es3 (L':=fkL 97 239972775903) (by kernel_rfl) (fkSeg.app es4 (L':=fkL 97 175886955313119) (by kernel_rfl) (fkSeg.app es5 (L':=fkL 97 71952006016530399) (by kernel_rfl) (fkSeg.app es6 (L':=fkL 97 73570697924703025119) (by kernel_rfl) (fkSeg.app es7 (L':=fkL 97 72606168395750659979231) (by kernel_rfl) (fkSeg.app es8 (L':=fkL 97 76914953577650617577240543) (by kernel_rfl) (fkSeg.app es9 (L':=fkL 97 9748321510494684015226650623) (by kernel_rfl) (fkSeg.app es10 (L':=fkL 97 9748321510710962385361829887) (by kernel_rfl) (fkSeg.app es11 (L':=fkL 97 79228162514264337593543950335) (by kernel_rfl) (fkSeg.app es12 (L':=fkL 97 158456325028528675187087900671) (by kernel_rfl) (by kernel_rfl))))))))))))))
theorem esum12 {x:Ct}{gA gD:Int}{b0 b1:Bh}{j:FH}{t gw G1_11 G2_24 G2_25 g5 G6_24 G6_25 G7_11 G7_12 G7_13 G8_24 G8_25 G8_26 G9_11 G10_6 G11_11:Nat}{qv qa qu qp ql qd qi qj qq qn qm:Rat}{sv tv sa ta su tu sp tp sl tl sd td sq tq sn tn sm tm sr tr se te sf tf sg tg so1 to1 sh th sw tw:Bool}{Av Bv Aa Ba Au Bu Ap Bp Al Bl Ad Bd Aq Bq An Bn Am Bm Ar Br Ae Be Af Bf Ag Bg Ao1 Bo1 Ah Bh Aw Bw:Option Addr}{nv cv mv dv na ca ma da nu cu mu du np cp mp dp nl cl ml dl nd cd md dd nq cq mq dq nn cn mn dn nm cm mm dm nr cr mr dr ne me nf cf mf df ng cg mg dg no1 mo1 nh mh nw cw mw dw:Nat}{w w0:World}{Q:Exit->Act->World->Prop}{a:Act}(hE:Env w (fun V=>(((((((((((((((((((((((((((((((((((True/\Blk 125 (gw) (wkE x t gA gD b0 b1 j) V)/\FV V qi b0.i.s b0.i.A b0.i.n b0.i.t b0.i.B b0.i.m)/\FV V qj j.s j.A j.n j.t j.B j.m)/\Blk 126 (w.heap.size) #[.bool false,.slice none 0 0,.bool false,.slice none 0 0,.bool false,.slice none 0 0,.bool false,.slice none 0 0,.bool false,.slice none 0 0,.bool false,.slice none 0 0,.bool false,.slice none 0 0,.bool false,.slice none 0 0,.bool false,.slice none 0 0,.bool false,.slice none 0 0,.bool false,.slice none 0 0,.bool false,.slice none 0 0,.bool false,.slice none 0 0,.bool false,.slice none 0 0,.bool false,.slice none 0 0,.bool false,.slice none 0 0,.bool false,.slice none 0 0,.bool false,.slice none 0 0,.bool false,.slice none 0 0,.bool false,.slice none 0 0] V)/\FV V qv sv Av nv tv Bv mv)/\Blk 29 (G1_11) (qf4 sv Av nv cv tv Bv mv dv) V)/\FV V qa sa Aa na ta Ba ma)/\FV V qu su Au nu tu Bu mu)/\Blk 29 (G2_24) (qf4 sa Aa na ca ta Ba ma da) V)/\Blk 29 (G2_25) (qf4 su Au nu cu tu Bu mu du) V)/\Blk 29 (g5) (qf4 sp Ap np cp tp Bp mp dp) V)/\FV V qp sp Ap np tp Bp mp)/\FV V ql sl Al nl tl Bl ml)/\FV V qd sd Ad nd td Bd md)/\Blk 29 (G6_24) (qf4 sl Al nl cl tl Bl ml dl) V)/\Blk 29 (G6_25) (qf4 sd Ad nd cd td Bd md dd) V)/\FV V qq sq Aq nq tq Bq mq)/\Blk 29 (G7_11) (qf4 b0.i.s b0.i.A b0.i.n b0.i.c b0.i.t b0.i.B b0.i.m b0.i.d) V)/\Blk 29 (G7_12) (qf4 j.s j.A j.n j.c j.t j.B j.m j.d) V)/\Blk 29 (G7_13) (qf4 sq Aq nq cq tq Bq mq dq) V)/\FV V qn sn An nn tn Bn mn)/\FV V qm sm Am nm tm Bm mm)/\FV V (qn-qm) sr Ar nr tr Br mr)/\Blk 29 (G8_24) (qf4 sn An nn cn tn Bn mn dn) V)/\Blk 29 (G8_25) (qf4 sm Am nm cm tm Bm mm dm) V)/\Blk 29 (G8_26) (qf4 sr Ar nr cr tr Br mr dr) V)/\FV V (qv+qp) se Ae ne te Be me)/\FV V (qv+qp-ql) sf Af nf tf Bf mf)/\Blk 29 (G9_11) (qf4 sf Af nf cf tf Bf mf df) V)/\FV V (qn*(qv+qp-ql)) sg Ag ng tg Bg mg)/\Blk 29 (G10_6) (qf4 sg Ag ng cg tg Bg mg dg) V)/\FV V ((1:Int):Rat) so1 Ao1 no1 to1 Bo1 mo1)/\FV V (((1:Int):Rat)+qi) sh Ah nh th Bh mh)/\FV V ((qv+qp-ql)*(1+qi)) sw Aw nw tw Bw mw)/\Blk 29 (G11_11) (qf4 sw Aw nw cw tw Bw mw dw) V)) w0)(hL:ItL qv qa qu qp ql qd qi qj qq qn qm)(hqs:((gA-gD:Int):Rat)=qn-qm)(hln:fl qn<=256/\fl qm<=256/\fl (qn-qm)<=256)
  (hk:Kn 255 a [(0,.pointer (some ⟨gw,0,none⟩)),(2,.pointer (some ⟨w.heap.size,0,none⟩)),(3,.pointer (some ⟨G1_11,0,none⟩)),(4,.pointer (some ⟨G2_24,0,none⟩)),(5,.pointer (some ⟨G2_25,0,none⟩)),(6,.pointer (some ⟨g5,0,none⟩)),(7,.pointer (some ⟨G6_24,0,none⟩)),(8,.pointer (some ⟨G6_25,0,none⟩)),(9,.pointer (some ⟨G7_11,0,none⟩)),(10,.pointer (some ⟨G7_12,0,none⟩)),(11,.pointer (some ⟨G7_13,0,none⟩)),(12,.pointer (some ⟨G8_24,0,none⟩)),(13,.pointer (some ⟨G8_25,0,none⟩)),(14,.pointer (some ⟨G8_26,0,none⟩)),(16,.pointer (some ⟨G10_6,0,none⟩)),(17,.pointer (some ⟨G11_11,0,none⟩))]) (hq0:∀c a (t:Tmp) v w,Q (.panic c) (Act.put a (some t) v) w->Q (.panic c) a w) (hend:∀(a:Act) (U:World) (hh:Nat->FH),a.eval (.tmp 2)= .pointer (some ⟨w.heap.size,0,none⟩)->a.defers=[]->Blk 126 w.heap.size (sumC hh).toArray U->(∀k,k<10->FV U (itm qv qa qu qp ql qd qi qj qq qn qm k) (hh k).s (hh k).A (hh k).n (hh k).t (hh k).B (hh k).m)->Below w.heap.size w U->Q .normal a U):Code.wp Tryz.prog esReg Q a w0:=by
 have hfa:∀w,(Instr.fieldAt 125 (.pointer (some ⟨gw,0,none⟩)) 0).run Tryz.prog w= .ok (.pointer (some ⟨gw,0,none⟩)) w:=fun w=>by first|kernel_rfl|(go_simp;done)|(go_simp;rfl)
 have hQ9:=Lib.hid hqs;have HhL:=Lib.hid hL;clear hqs hL
 conv=>arg 2;whnf
 replace hE:=hE.drew
 refine fk_start (S:=fun V=>Blk 125 (gw) (wkE x t gA gD b0 b1 j) V/\Blk 29 (G10_6) (qf4 sg Ag ng cg tg Bg mg dg) V/\Blk 29 (G2_24) (qf4 sa Aa na ca ta Ba ma da) V/\Blk 29 (G6_25) (qf4 sd Ad nd cd td Bd md dd) V/\Blk 29 (G7_11) (qf4 b0.i.s b0.i.A b0.i.n b0.i.c b0.i.t b0.i.B b0.i.m b0.i.d) V/\Blk 29 (G7_12) (qf4 j.s j.A j.n j.c j.t j.B j.m j.d) V/\Blk 29 (G6_24) (qf4 sl Al nl cl tl Bl ml dl) V/\Blk 29 (G8_25) (qf4 sm Am nm cm tm Bm mm dm) V/\Blk 29 (G8_24) (qf4 sn An nn cn tn Bn mn dn) V/\Blk 29 (g5) (qf4 sp Ap np cp tp Bp mp dp) V/\Blk 29 (G7_13) (qf4 sq Aq nq cq tq Bq mq dq) V/\Blk 29 (G8_26) (qf4 sr Ar nr cr tr Br mr dr) V/\Blk 29 (G2_25) (qf4 su Au nu cu tu Bu mu du) V/\Blk 29 (G1_11) (qf4 sv Av nv cv tv Bv mv dv) V/\Blk 29 (G11_11) (qf4 sw Aw nw cw tw Bw mw dw) V) (n:=97) [(true,0),(true,1),(true,2),(true,3),(true,4),(true,6),(true,7),(true,8),(true,9),(true,10),(true,12),(true,13),(true,14),(true,15),(true,16),(true,18),(true,19),(true,20),(true,21),(true,22),(true,24),(true,25),(true,26),(true,27),(true,28),(true,30),(true,31),(true,32),(true,33),(true,34),(true,36),(true,37),(true,38),(true,39),(true,40),(true,41),(true,42),(true,43),(true,44),(true,47),(true,48),(true,49),(true,50),(true,51),(true,52),(true,53),(true,54),(true,55),(true,58),(true,59),(true,60),(true,61),(true,62),(true,63),(true,64),(true,65),(true,66),(true,67),(true,68),(true,70),(true,72),(true,73),(true,74),(true,75),(true,76),(true,79),(true,80),(true,81),(true,82),(true,83),(true,84),(true,85),(true,86),(true,88),(true,89),(true,90),(true,91),(true,92),(false,5),(false,11),(false,17),(false,23),(false,29),(false,35),(false,45),(false,46),(false,56),(false,57),(false,69),(false,71),(false,77),(false,78),(false,87),(false,93),(false,94),(true,95),(false,96)] (by kernel_rfl) (⟨hE.e32.1.1.2,hE.h4,hE.e24.1.1.2,hE.e16.1.1.1.2,hE.e16.1.2,hE.e16.2,hE.e16.1.1.1.1.2,hE.h10,hE.h11,hE.e24.2,hE.e8.1.1.1.1.1.1.1.2,hE.h9,hE.e24.1.2,hE.e24.1.1.1.1.1.2,hE.here.2⟩) rfl esPlan (by kernel_rfl) hq0 (fun _ _ hb ⟨h0,h1,h2,h3,h4,h5,h6,h7,h8,h9,h10,h11,h12,h13,h14⟩=>⟨Blk.stable _ _ _ _ _ hb h0,Blk.stable _ _ _ _ _ hb h1,Blk.stable _ _ _ _ _ hb h2,Blk.stable _ _ _ _ _ hb h3,Blk.stable _ _ _ _ _ hb h4,Blk.stable _ _ _ _ _ hb h5,Blk.stable _ _ _ _ _ hb h6,Blk.stable _ _ _ _ _ hb h7,Blk.stable _ _ _ _ _ hb h8,Blk.stable _ _ _ _ _ hb h9,Blk.stable _ _ _ _ _ hb h10,Blk.stable _ _ _ _ _ hb h11,Blk.stable _ _ _ _ _ hb h12,Blk.stable _ _ _ _ _ hb h13,Blk.stable _ _ _ _ _ hb h14⟩) ?_
 intro hq hp hHeld hSt
 generalize w0.drew=wd at*
 refine fk_mv hq hk hp hHeld rfl rfl rfl rfl rfl (fun a hk hp=> ?_);refine fk_nc hq hk hp hHeld rfl rfl rfl rfl rfl (fun a hk hp=> ?_);refine fk_fa hfa hq hk hp hHeld rfl rfl rfl rfl rfl (fun a hk hp=> ?_);refine fk_ld (fun _ h=>h.2.2.2.2.2.2.2.2.1) hq hk hp hHeld rfl rfl rfl rfl rfl (fun a hk hp=> ?_);refine fk_ld (fun _ h=>h.2.2.2.2.2.2.2.2.2.2.2.2.2.1) hq hk hp hHeld rfl rfl rfl rfl rfl (fun a hk hp=> ?_);refine fk_mv hq hk hp hHeld rfl rfl rfl rfl rfl (fun a hk hp=> ?_);refine fk_nc hq hk hp hHeld rfl rfl rfl rfl rfl (fun a hk hp=> ?_);refine fk_fa hfa hq hk hp hHeld rfl rfl rfl rfl rfl (fun a hk hp=> ?_);refine fk_ld (fun _ h=>h.2.2.2.2.2.2.2.2.1) hq hk hp hHeld rfl rfl rfl rfl rfl (fun a hk hp=> ?_);refine fk_ld (fun _ h=>h.2.2.2.2.2.2.2.2.2.1) hq hk hp hHeld rfl rfl rfl rfl rfl (fun a hk hp=> ?_);refine fk_mv hq hk hp hHeld rfl rfl rfl rfl rfl (fun a hk hp=> ?_);refine fk_nc hq hk hp hHeld rfl rfl rfl rfl rfl (fun a hk hp=> ?_);refine fk_fa hfa hq hk hp hHeld rfl rfl rfl rfl rfl (fun a hk hp=> ?_);refine fk_ld (fun _ h=>h.2.2.2.2.2.2.2.2.1) hq hk hp hHeld rfl rfl rfl rfl rfl (fun a hk hp=> ?_);refine fk_ld (fun _ h=>h.2.2.2.2.2.2.1) hq hk hp hHeld rfl rfl rfl rfl rfl (fun a hk hp=> ?_);refine fk_mv hq hk hp hHeld rfl rfl rfl rfl rfl (fun a hk hp=> ?_);refine fk_nc hq hk hp hHeld rfl rfl rfl rfl rfl (fun a hk hp=> ?_);refine fk_fa hfa hq hk hp hHeld rfl rfl rfl rfl rfl (fun a hk hp=> ?_);refine fk_ld (fun _ h=>h.2.1) hq hk hp hHeld rfl rfl rfl rfl rfl (fun a hk hp=> ?_);refine fk_ld (fun _ h=>h.2.2.2.2.2.1) hq hk hp hHeld rfl rfl rfl rfl rfl (fun a hk hp=> ?_);refine fk_mv hq hk hp hHeld rfl rfl rfl rfl rfl (fun a hk hp=> ?_);refine fk_nc hq hk hp hHeld rfl rfl rfl rfl rfl (fun a hk hp=> ?_);refine fk_fa hfa hq hk hp hHeld rfl rfl rfl rfl rfl (fun a hk hp=> ?_);refine fk_ld (fun _ h=>h.2.2.2.2.2.2.2.1) hq hk hp hHeld rfl rfl rfl rfl rfl (fun a hk hp=> ?_);refine fk_ld (fun _ h=>h.2.2.2.1) hq hk hp hHeld rfl rfl rfl rfl rfl (fun a hk hp=> ?_);refine fk_mv hq hk hp hHeld rfl rfl rfl rfl rfl (fun a hk hp=> ?_);refine fk_nc hq hk hp hHeld rfl rfl rfl rfl rfl (fun a hk hp=> ?_);refine fk_fa hfa hq hk hp hHeld rfl rfl rfl rfl rfl (fun a hk hp=> ?_);refine fk_ld (fun _ h=>h.2.2.2.2.2.2.2.2.2.2.2.1) hq hk hp hHeld rfl rfl rfl rfl rfl (fun a hk hp=> ?_);refine fk_ld (fun _ h=>h.2.2.2.2.2.2.2.2.2.2.2.2.1) hq hk hp hHeld rfl rfl rfl rfl rfl (fun a hk hp=> ?_);refine fk_mv hq hk hp hHeld rfl rfl rfl rfl rfl (fun a hk hp=> ?_);refine fk_nc hq hk hp hHeld rfl rfl rfl rfl rfl (fun a hk hp=> ?_);refine fk_fa hfa hq hk hp hHeld rfl rfl rfl rfl rfl (fun a hk hp=> ?_);refine fk_ld (fun _ h=>h.2.2.2.2.2.2.2.2.1) hq hk hp hHeld rfl rfl rfl rfl rfl (fun a hk hp=> ?_);refine fk_mv hq hk hp hHeld rfl rfl rfl rfl rfl (fun a hk hp=> ?_);refine fk_nc hq hk hp hHeld rfl rfl rfl rfl rfl (fun a hk hp=> ?_);refine fk_fa hfa hq hk hp hHeld rfl rfl rfl rfl rfl (fun a hk hp=> ?_)
 refine fk_ld (fun _ h=>h.2.2.2.2.2.2.2.2.2.2.2.2.2.2) hq hk hp hHeld rfl rfl rfl rfl rfl (fun a hk hp=> ?_);refine fk_ld (fun _ h=>h.2.2.2.2.2.2.2.2.2.2.2.2.2.1) hq hk hp hHeld rfl rfl rfl rfl rfl (fun a hk hp=> ?_);refine fk_mv hq hk hp hHeld rfl rfl rfl rfl rfl (fun a hk hp=> ?_);refine fk_nc hq hk hp hHeld rfl rfl rfl rfl rfl (fun a hk hp=> ?_);refine fk_fa hfa hq hk hp hHeld rfl rfl rfl rfl rfl (fun a hk hp=> ?_);refine fk_ld (fun _ h=>h.2.1) hq hk hp hHeld rfl rfl rfl rfl rfl (fun a hk hp=> ?_);refine fk_mv hq hk hp hHeld rfl rfl rfl rfl rfl (fun a hk hp=> ?_);refine fk_nc hq hk hp hHeld rfl rfl rfl rfl rfl (fun a hk hp=> ?_);refine fk_fa hfa hq hk hp hHeld rfl rfl rfl rfl rfl (fun a hk hp=> ?_);refine fk_ld (fun _ h=>h.2.2.2.2.2.1) hq hk hp hHeld rfl rfl rfl rfl rfl (fun a hk hp=> ?_);refine fk_ld (fun _ h=>h.2.2.2.2.1) hq hk hp hHeld rfl rfl rfl rfl rfl (fun a hk hp=> ?_);refine fk_mv hq hk hp hHeld rfl rfl rfl rfl rfl (fun a hk hp=> ?_);refine fk_nc hq hk hp hHeld rfl rfl rfl rfl rfl (fun a hk hp=> ?_);refine fk_fa hfa hq hk hp hHeld rfl rfl rfl rfl rfl (fun a hk hp=> ?_);refine fk_mv hq hk hp hHeld rfl rfl rfl rfl rfl (fun a hk hp=> ?_);refine fk_nc hq hk hp hHeld rfl rfl rfl rfl rfl (fun a hk hp=> ?_);refine fk_fa hfa hq hk hp hHeld rfl rfl rfl rfl rfl (fun a hk hp=> ?_);refine fk_mv hq hk hp hHeld rfl rfl rfl rfl rfl (fun a hk hp=> ?_);refine fk_nc hq hk hp hHeld rfl rfl rfl rfl rfl (fun a hk hp=> ?_);refine fk_fa hfa hq hk hp hHeld rfl rfl rfl rfl rfl (fun a hk hp=> ?_);refine fk_ld (fun _ h=>h.2.2.2.2.2.2.2.2.1) hq hk hp hHeld rfl rfl rfl rfl rfl (fun a hk hp=> ?_);refine fk_ld (fun _ h=>h.2.2.2.2.2.2.2.2.2.2.1) hq hk hp hHeld rfl rfl rfl rfl rfl (fun a hk hp=> ?_);refine fk_ld (fun _ h=>h.2.2.2.2.2.2.2.1) hq hk hp hHeld rfl rfl rfl rfl rfl (fun a hk hp=> ?_);refine fk_mv hq hk hp hHeld rfl rfl rfl rfl rfl (fun a hk hp=> ?_);refine fk_nc hq hk hp hHeld rfl rfl rfl rfl rfl (fun a hk hp=> ?_);refine fk_fa hfa hq hk hp hHeld rfl rfl rfl rfl rfl (fun a hk hp=> ?_);refine fk_ld (fun _ h=>h.2.2.2.1) hq hk hp hHeld rfl rfl rfl rfl rfl (fun a hk hp=> ?_);refine fk_ld (fun _ h=>h.2.2.1) hq hk hp hHeld rfl rfl rfl rfl rfl (fun a hk hp=> ?_);refine fk_mv hq hk hp hHeld rfl rfl rfl rfl rfl (fun a hk hp=> ?_);refine fk_nc hq hk hp hHeld rfl rfl rfl rfl rfl (fun a hk hp=> ?_);refine fk_fa hfa hq hk hp hHeld rfl rfl rfl rfl rfl (fun a hk hp=> ?_);refine fk_mv hq hk hp hHeld rfl rfl rfl rfl rfl (fun a hk hp=> ?_);refine fk_nc hq hk hp hHeld rfl rfl rfl rfl rfl (fun a hk hp=> ?_);refine fk_fa hfa hq hk hp hHeld rfl rfl rfl rfl rfl (fun a hk hp=> ?_);refine fk_ld (fun _ h=>h.2.2.2.2.2.2.2.2.2.2.2.1) hq hk hp hHeld rfl rfl rfl rfl rfl (fun a hk hp=> ?_);refine fk_ld (fun _ h=>h.2.2.1) hq hk hp hHeld rfl rfl rfl rfl rfl (fun a hk hp=> ?_);refine fk_mv hq hk hp hHeld rfl rfl rfl rfl rfl (fun a hk hp=> ?_);refine fk_nc hq hk hp hHeld rfl rfl rfl rfl rfl (fun a hk hp=> ?_)
 refine fk_fa hfa hq hk hp hHeld rfl rfl rfl rfl rfl (fun a hk hp=> ?_);refine fk_ld (fun _ h=>h.2.2.2.2.2.2.2.2.2.2.2.1) hq hk hp hHeld rfl rfl rfl rfl rfl (fun a hk hp=> ?_);refine fk_ld (fun _ h=>h.2.2.2.2.2.2.2.2.2.2.2.2.1) hq hk hp hHeld rfl rfl rfl rfl rfl (fun a hk hp=> ?_);refine fk_call Tryz.func141 (emul_v (ca:=cn) (da:=dn) (cb:=cv) (db:=dv) (wkC_sum (show Blk _ gw (wkC x (t:Int) gA gD b0 b1 j) _ from hE.e32.1.1.2)) (hE.e8.1.1.1.1.1.1.2) (hE.e24.1.1.1.1.1.1.2) hln.1 HhL.out.l1 (HhL.out.it 0)) hk hp rfl rfl rfl rfl rfl rfl rfl ?_;clear hk hp a;rintro e w22 ⟨sK5,AK5,nK5,cK5,tK5,BK5,mK5,dK5,rfl,hv,hb⟩;replace hE:=(hE.step hb).fv hv;clear hv;replace hHeld:=hSt _ _ hb hHeld;clear hb;refine⟨_,rfl,hHeld,fun hHeld a hk hp=> ?_⟩;refine fk_call Tryz.func141 (emul_v (ca:=cn) (da:=dn) (cb:=cp) (db:=dp) (wkC_sum (show Blk _ gw (wkC x (t:Int) gA gD b0 b1 j) _ from hE.e32.1.1.1.2)) (hE.e8.1.1.1.1.1.1.1.2) (hE.e24.2) hln.1 HhL.out.l4 (HhL.out.it 1)) hk hp rfl rfl rfl rfl rfl rfl rfl ?_;clear hk hp a;rintro e w23 ⟨sK11,AK11,nK11,cK11,tK11,BK11,mK11,dK11,rfl,hv,hb⟩;replace hE:=(hE.step hb).fv hv;clear hv;replace hHeld:=hSt _ _ hb hHeld;clear hb;refine⟨_,rfl,hHeld,fun hHeld a hk hp=> ?_⟩;refine fk_call Tryz.func141 (emul_v (ca:=cn) (da:=dn) (cb:=cl) (db:=dl) (wkC_sum (show Blk _ gw (wkC x (t:Int) gA gD b0 b1 j) _ from hE.e32.1.1.1.1.2)) (hE.e16.2) (hE.e24.2) hln.1 HhL.out.l5 (HhL.out.it 2)) hk hp rfl rfl rfl rfl rfl rfl rfl ?_;clear hk hp a;rintro e w24 ⟨sK17,AK17,nK17,cK17,tK17,BK17,mK17,dK17,rfl,hv,hb⟩;replace hE:=(hE.step hb).fv hv;clear hv;replace hHeld:=hSt _ _ hb hHeld;clear hb;refine⟨_,rfl,hHeld,fun hHeld a hk hp=> ?_⟩;refine fk_call Tryz.func141 (emul_v (ca:=cg) (da:=dg) (cb:=j.c) (db:=j.d) (wkC_sum (show Blk _ gw (wkC x (t:Int) gA gD b0 b1 j) _ from hE.e32.1.1.1.1.1.2)) (hE.h8) (hE.e32.1.1.1.2) HhL.out.b3 HhL.out.l8 (HhL.out.it 3)) hk hp rfl rfl rfl rfl rfl rfl rfl ?_;clear hk hp a;rintro e w25 ⟨sK23,AK23,nK23,cK23,tK23,BK23,mK23,dK23,rfl,hv,hb⟩;replace hE:=(hE.step hb).fv hv;clear hv;replace hHeld:=hSt _ _ hb hHeld;clear hb;refine⟨_,rfl,hHeld,fun hHeld a hk hp=> ?_⟩
 refine fk_call Tryz.func141 (emul_v (ca:=cm) (da:=dm) (cb:=cd) (db:=dd) (wkC_sum (show Blk _ gw (wkC x (t:Int) gA gD b0 b1 j) _ from hE.e32.1.1.1.1.1.1.2)) (hE.e16.1.2) (hE.e24.1.2) hln.2.1 HhL.out.l6 (HhL.out.it 4)) hk hp rfl rfl rfl rfl rfl rfl rfl ?_;clear hk hp a;rintro e w26 ⟨sK29,AK29,nK29,cK29,tK29,BK29,mK29,dK29,rfl,hv,hb⟩;replace hE:=(hE.step hb).fv hv;clear hv;replace hHeld:=hSt _ _ hb hHeld;clear hb;refine⟨_,rfl,hHeld,fun hHeld a hk hp=> ?_⟩;refine fk_call Tryz.func141 (emul_v (ca:=cr) (da:=dr) (cb:=cu) (db:=du) (wkC_sum (show Blk _ gw (wkC x (t:Int) gA gD b0 b1 j) _ from hE.e32.1.1.1.1.1.1.1.2)) (hE.e16.1.2) (hE.e32.2) hln.2.2 HhL.out.l3 (HhL.out.it 5)) hk hp rfl rfl rfl rfl rfl rfl rfl ?_;clear hk hp a;rintro e w27 ⟨sK35,AK35,nK35,cK35,tK35,BK35,mK35,dK35,rfl,hv,hb⟩;replace hE:=(hE.step hb).fv hv;clear hv;replace hHeld:=hSt _ _ hb hHeld;clear hb;refine⟨_,rfl,hHeld,fun hHeld a hk hp=> ?_⟩;refine fk_call Tryz.func97 (esub_v (ca:=cw) (da:=dw) (cb:=cv) (db:=dv) (wkC_sum (show Blk _ gw (wkC x (t:Int) gA gD b0 b1 j) _ from hE.e40.2)) (hE.h7) (hE.e32.1.1.1.1.2) HhL.out.b5 HhL.out.l1 HhL.out.b6) hk hp rfl rfl rfl rfl rfl rfl rfl ?_;clear hk hp a;rintro e w28 ⟨sK45,AK45,nK45,cK45,tK45,BK45,mK45,dK45,rfl,hv,hb⟩;replace hE:=(hE.step hb).fv hv;clear hv;replace hHeld:=hSt _ _ hb hHeld;clear hb;refine⟨_,rfl,hHeld,fun hHeld a hk hp=> ?_⟩;refine fk_call Tryz.func141 (emul_v (ca:=cn) (da:=dn) (cb:=cK45) (db:=dK45) (wkC_sum (show Blk _ gw (wkC x (t:Int) gA gD b0 b1 j) _ from hE.e40.1.2)) (hE.e16.1.1.1.1.1.2) (hE.here.2) hln.1 HhL.out.b6 (HhL.out.it 6)) hk hp rfl rfl rfl rfl rfl rfl rfl ?_;clear hk hp a;rintro e w29 ⟨sK46,AK46,nK46,cK46,tK46,BK46,mK46,dK46,rfl,hv,hb⟩;replace hE:=(hE.step hb).fv hv;clear hv;replace hHeld:=hSt _ _ hb hHeld;clear hb;refine⟨_,rfl,hHeld,fun hHeld a hk hp=> ?_⟩
 refine fk_call Tryz.func97 (esub_v (ca:=j.c) (da:=j.d) (cb:=b0.i.c) (db:=b0.i.d) (wkC_sum (show Blk _ gw (wkC x (t:Int) gA gD b0 b1 j) _ from hE.e40.1.1.2)) (hE.e40.2) (hE.e40.1.2) HhL.out.l8 HhL.out.l7 HhL.out.b7) hk hp rfl rfl rfl rfl rfl rfl rfl ?_;clear hk hp a;rintro e w30 ⟨sK56,AK56,nK56,cK56,tK56,BK56,mK56,dK56,rfl,hv,hb⟩;replace hE:=(hE.step hb).fv hv;clear hv;replace hHeld:=hSt _ _ hb hHeld;clear hb;refine⟨_,rfl,hHeld,fun hHeld a hk hp=> ?_⟩;refine fk_call Tryz.func141 (emul_v (ca:=cg) (da:=dg) (cb:=cK56) (db:=dK56) (wkC_sum (show Blk _ gw (wkC x (t:Int) gA gD b0 b1 j) _ from hE.e40.1.1.1.2)) (hE.e8.1.1.1.1.1.1.2) (hE.here.2) HhL.out.b3 HhL.out.b7 (HhL.out.it 7)) hk hp rfl rfl rfl rfl rfl rfl rfl ?_;clear hk hp a;rintro e w31 ⟨sK57,AK57,nK57,cK57,tK57,BK57,mK57,dK57,rfl,hv,hb⟩;replace hE:=(hE.step hb).fv hv;clear hv;replace hHeld:=hSt _ _ hb hHeld;clear hb;refine⟨_,rfl,hHeld,fun hHeld a hk hp=> ?_⟩;refine fk_call Tryz.func141 (emul_v (ca:=cn) (da:=dn) (cb:=cq) (db:=dq) (wkC_sum (show Blk _ gw (wkC x (t:Int) gA gD b0 b1 j) _ from hE.e40.1.1.1.1.2)) (hE.e24.2) (hE.e24.1.1.1.1.2) hln.1 HhL.out.l9 HhL.out.b8) hk hp rfl rfl rfl rfl rfl rfl rfl ?_;clear hk hp a;rintro e w32 ⟨sK69,AK69,nK69,cK69,tK69,BK69,mK69,dK69,rfl,hv,hb⟩;replace hE:=(hE.step hb).fv hv;clear hv;replace hHeld:=hSt _ _ hb hHeld;clear hb;refine⟨_,rfl,hHeld,fun hHeld a hk hp=> ?_⟩;refine fk_call Tryz.func97 (esub_v (ca:=cK69) (da:=dK69) (cb:=cm) (db:=dm) (wkC_sum (show Blk _ gw (wkC x (t:Int) gA gD b0 b1 j) _ from hE.e40.1.1.1.1.1.2)) (hE.here.2) (hE.e24.2) HhL.out.b8 hln.2.1 HhL.out.b9) hk hp rfl rfl rfl rfl rfl rfl rfl ?_;clear hk hp a;rintro e w33 ⟨sK71,AK71,nK71,cK71,tK71,BK71,mK71,dK71,rfl,hv,hb⟩;replace hE:=(hE.step hb).fv hv;clear hv;replace hHeld:=hSt _ _ hb hHeld;clear hb;refine⟨_,rfl,hHeld,fun hHeld a hk hp=> ?_⟩
 refine fk_call Tryz.func97 (esub_v (ca:=cd) (da:=dd) (cb:=ca) (db:=da) (wkC_sum (show Blk _ gw (wkC x (t:Int) gA gD b0 b1 j) _ from hE.e40.1.1.1.1.1.1.2)) (hE.e32.1.2) (hE.e40.2) HhL.out.l6 HhL.out.l2 HhL.out.c1) hk hp rfl rfl rfl rfl rfl rfl rfl ?_;clear hk hp a;rintro e w34 ⟨sK77,AK77,nK77,cK77,tK77,BK77,mK77,dK77,rfl,hv,hb⟩;replace hE:=(hE.step hb).fv hv;clear hv;replace hHeld:=hSt _ _ hb hHeld;clear hb;refine⟨_,rfl,hHeld,fun hHeld a hk hp=> ?_⟩;refine fk_call Tryz.func141 (emul_v (ca:=cK71) (da:=dK71) (cb:=cK77) (db:=dK77) (wkC_sum (show Blk _ gw (wkC x (t:Int) gA gD b0 b1 j) _ from hE.e40.1.1.1.1.1.1.1.2)) (hE.here.1.2) (hE.here.2) HhL.out.b9 HhL.out.c1 (HhL.out.it 8)) hk hp rfl rfl rfl rfl rfl rfl rfl ?_;clear hk hp a;rintro e w35 ⟨sK78,AK78,nK78,cK78,tK78,BK78,mK78,dK78,rfl,hv,hb⟩;replace hE:=(hE.step hb).fv hv;clear hv;replace hHeld:=hSt _ _ hb hHeld;clear hb;refine⟨_,rfl,hHeld,fun hHeld a hk hp=> ?_⟩;refine fk_call Tryz.func141 (emul_v (ca:=cr) (da:=dr) (cb:=ca) (db:=da) (wkC_sum (show Blk _ gw (wkC x (t:Int) gA gD b0 b1 j) _ from hE.e48.2)) (hE.e24.1.1.2) (hE.e40.1.1.2) hln.2.2 HhL.out.l2 HhL.out.c2) hk hp rfl rfl rfl rfl rfl rfl rfl ?_;clear hk hp a;rintro e w36 ⟨sK87,AK87,nK87,cK87,tK87,BK87,mK87,dK87,rfl,hv,hb⟩;replace hE:=(hE.step hb).fv hv;clear hv;replace hHeld:=hSt _ _ hb hHeld;clear hb;refine⟨_,rfl,hHeld,fun hHeld a hk hp=> ?_⟩;refine fk_call Tryz.func141 (emul_v (ca:=cr) (da:=dr) (cb:=cu) (db:=du) (wkC_sum (show Blk _ gw (wkC x (t:Int) gA gD b0 b1 j) _ from hE.e48.1.2)) (hE.e24.1.1.1.2) (hE.e40.1.1.2) hln.2.2 HhL.out.l3 HhL.out.c3) hk hp rfl rfl rfl rfl rfl rfl rfl ?_;clear hk hp a;rintro e w37 ⟨sK93,AK93,nK93,cK93,tK93,BK93,mK93,dK93,rfl,hv,hb⟩;replace hE:=(hE.step hb).fv hv;clear hv;replace hHeld:=hSt _ _ hb hHeld;clear hb;refine⟨_,rfl,hHeld,fun hHeld a hk hp=> ?_⟩
 refine fk_call Tryz.func97 (esub_v (ca:=cK87) (da:=dK87) (cb:=cK93) (db:=dK93) (wkC_sum (show Blk _ gw (wkC x (t:Int) gA gD b0 b1 j) _ from hE.e48.1.1.2)) (hE.here.1.2) (hE.here.2) HhL.out.c2 HhL.out.c3 (HhL.out.it 9)) hk hp rfl rfl rfl rfl rfl rfl rfl ?_;clear hk hp a;rintro e w38 ⟨sK94,AK94,nK94,cK94,tK94,BK94,mK94,dK94,rfl,hv,hb⟩;replace hE:=(hE.step hb).fv hv;clear hv;replace hHeld:=hSt _ _ hb hHeld;clear hb;refine⟨_,rfl,hHeld,fun hHeld a hk hp=> ?_⟩
 obtain⟨hh,hhh⟩:∃hh:Nat->FH,hh=fh10 (FHof (qn*qv) sK5 AK5 nK5 cK5 tK5 BK5 mK5 dK5) (FHof (qn*qp) sK11 AK11 nK11 cK11 tK11 BK11 mK11 dK11) (FHof (qn*ql) sK17 AK17 nK17 cK17 tK17 BK17 mK17 dK17) (FHof (qn*(qv+qp-ql)*qj) sK23 AK23 nK23 cK23 tK23 BK23 mK23 dK23) (FHof (qm*qd) sK29 AK29 nK29 cK29 tK29 BK29 mK29 dK29) (FHof ((qn-qm)*qu) sK35 AK35 nK35 cK35 tK35 BK35 mK35 dK35) (FHof (qn*((qv+qp-ql)*(1+qi)-qv)) sK46 AK46 nK46 cK46 tK46 BK46 mK46 dK46) (FHof (qn*(qv+qp-ql)*(qj-qi)) sK57 AK57 nK57 cK57 tK57 BK57 mK57 dK57) (FHof ((qn*qq-qm)*(qd-qa)) sK78 AK78 nK78 cK78 tK78 BK78 mK78 dK78) (FHof ((qn-qm)*qa-(qn-qm)*qu) sK94 AK94 nK94 cK94 tK94 BK94 mK94 dK94):=⟨_,rfl⟩
 have hbd:∀w,(Instr.build 126 #[(0,.agg (qf4 sK5 AK5 nK5 cK5 tK5 BK5 mK5 dK5)),(1,.agg (qf4 sK11 AK11 nK11 cK11 tK11 BK11 mK11 dK11)),(2,.agg (qf4 sK17 AK17 nK17 cK17 tK17 BK17 mK17 dK17)),(3,.agg (qf4 sK23 AK23 nK23 cK23 tK23 BK23 mK23 dK23)),(4,.agg (qf4 sK29 AK29 nK29 cK29 tK29 BK29 mK29 dK29)),(5,.agg (qf4 sK35 AK35 nK35 cK35 tK35 BK35 mK35 dK35)),(6,.agg (qf4 sK46 AK46 nK46 cK46 tK46 BK46 mK46 dK46)),(7,.agg (qf4 sK57 AK57 nK57 cK57 tK57 BK57 mK57 dK57)),(8,.agg (qf4 sK78 AK78 nK78 cK78 tK78 BK78 mK78 dK78)),(9,.agg (qf4 sK94 AK94 nK94 cK94 tK94 BK94 mK94 dK94))]).run Tryz.prog w= .ok (.agg (sumC hh).toArray) w:=fun w=>by rw[hhh];first|kernel_rfl|(go_simp;rfl)
 refine fk_bd hbd hq hk hp hHeld rfl rfl rfl rfl (by simp only[List.map_toArray,List.map_cons,List.map_nil,show a.eval (.tmp 164)= .agg (qf4 sK5 AK5 nK5 cK5 tK5 BK5 mK5 dK5) from hk.get rfl,show a.eval (.tmp 170)= .agg (qf4 sK11 AK11 nK11 cK11 tK11 BK11 mK11 dK11) from hk.get rfl,show a.eval (.tmp 176)= .agg (qf4 sK17 AK17 nK17 cK17 tK17 BK17 mK17 dK17) from hk.get rfl,show a.eval (.tmp 182)= .agg (qf4 sK23 AK23 nK23 cK23 tK23 BK23 mK23 dK23) from hk.get rfl,show a.eval (.tmp 188)= .agg (qf4 sK29 AK29 nK29 cK29 tK29 BK29 mK29 dK29) from hk.get rfl,show a.eval (.tmp 194)= .agg (qf4 sK35 AK35 nK35 cK35 tK35 BK35 mK35 dK35) from hk.get rfl,show a.eval (.tmp 205)= .agg (qf4 sK46 AK46 nK46 cK46 tK46 BK46 mK46 dK46) from hk.get rfl,show a.eval (.tmp 216)= .agg (qf4 sK57 AK57 nK57 cK57 tK57 BK57 mK57 dK57) from hk.get rfl,show a.eval (.tmp 237)= .agg (qf4 sK78 AK78 nK78 cK78 tK78 BK78 mK78 dK78) from hk.get rfl,show a.eval (.tmp 253)= .agg (qf4 sK94 AK94 nK94 cK94 tK94 BK94 mK94 dK94) from hk.get rfl]) (fun a hk hp=> ?_);have hst:=store_all 126 (hE.e48.2) (sumC hh) rfl (by kernel_rfl) (sumC_one hh);obtain⟨hgr,hBk⟩:=sets_all (hE.e48.2) (sumC hh) rfl;have hBel:=Go.Proofs.YtclbiihcbfnjmaaGreat.Below.grownB hE.bel hgr hE.bel.size (Nat.le_refl _);have r0:=FV.grownB (hE.e16.2) (hE.e48.2) rfl hgr;have r1:=FV.grownB (hE.e8.1.1.1.1.1.1.1.2) (hE.e48.2) rfl hgr;have r2:=FV.grownB (hE.e8.1.1.1.1.1.1.2) (hE.e48.2) rfl hgr;have r3:=FV.grownB (hE.h13) (hE.e48.2) rfl hgr;have r4:=FV.grownB (hE.h12) (hE.e48.2) rfl hgr;have r5:=FV.grownB (hE.h11) (hE.e48.2) rfl hgr;have r6:=FV.grownB (hE.h9) (hE.e48.2) rfl hgr;have r7:=FV.grownB (hE.h7) (hE.e48.2) rfl hgr;have r8:=FV.grownB (hE.h3) (hE.e48.2) rfl hgr
 have r9:=FV.grownB (hE.here.2) (hE.e48.2) rfl hgr;have hB9:=hE.e48.2;refine fk_store hst hk hp rfl rfl rfl rfl rfl rfl ⟨Blk.grownB hHeld.1 hgr (Blk.ne hHeld.1 hB9 (by decide)),Blk.grownB hHeld.2.1 hgr (Blk.ne hHeld.2.1 hB9 (by decide)),Blk.grownB hHeld.2.2.1 hgr (Blk.ne hHeld.2.2.1 hB9 (by decide)),Blk.grownB hHeld.2.2.2.1 hgr (Blk.ne hHeld.2.2.2.1 hB9 (by decide)),Blk.grownB hHeld.2.2.2.2.1 hgr (Blk.ne hHeld.2.2.2.2.1 hB9 (by decide)),Blk.grownB hHeld.2.2.2.2.2.1 hgr (Blk.ne hHeld.2.2.2.2.2.1 hB9 (by decide)),Blk.grownB hHeld.2.2.2.2.2.2.1 hgr (Blk.ne hHeld.2.2.2.2.2.2.1 hB9 (by decide)),Blk.grownB hHeld.2.2.2.2.2.2.2.1 hgr (Blk.ne hHeld.2.2.2.2.2.2.2.1 hB9 (by decide)),Blk.grownB hHeld.2.2.2.2.2.2.2.2.1 hgr (Blk.ne hHeld.2.2.2.2.2.2.2.2.1 hB9 (by decide)),Blk.grownB hHeld.2.2.2.2.2.2.2.2.2.1 hgr (Blk.ne hHeld.2.2.2.2.2.2.2.2.2.1 hB9 (by decide)),Blk.grownB hHeld.2.2.2.2.2.2.2.2.2.2.1 hgr (Blk.ne hHeld.2.2.2.2.2.2.2.2.2.2.1 hB9 (by decide)),Blk.grownB hHeld.2.2.2.2.2.2.2.2.2.2.2.1 hgr (Blk.ne hHeld.2.2.2.2.2.2.2.2.2.2.2.1 hB9 (by decide)),Blk.grownB hHeld.2.2.2.2.2.2.2.2.2.2.2.2.1 hgr (Blk.ne hHeld.2.2.2.2.2.2.2.2.2.2.2.2.1 hB9 (by decide)),Blk.grownB hHeld.2.2.2.2.2.2.2.2.2.2.2.2.2.1 hgr (Blk.ne hHeld.2.2.2.2.2.2.2.2.2.2.2.2.2.1 hB9 (by decide)),Blk.grownB hHeld.2.2.2.2.2.2.2.2.2.2.2.2.2.2 hgr (Blk.ne hHeld.2.2.2.2.2.2.2.2.2.2.2.2.2.2 hB9 (by decide))⟩ ?_
 have e0:hh 0=(FHof (qn*qv) sK5 AK5 nK5 cK5 tK5 BK5 mK5 dK5):=by rw[hhh];rfl
 have e1:hh 1=(FHof (qn*qp) sK11 AK11 nK11 cK11 tK11 BK11 mK11 dK11):=by rw[hhh];rfl
 have e2:hh 2=(FHof (qn*ql) sK17 AK17 nK17 cK17 tK17 BK17 mK17 dK17):=by rw[hhh];rfl
 have e3:hh 3=(FHof (qn*(qv+qp-ql)*qj) sK23 AK23 nK23 cK23 tK23 BK23 mK23 dK23):=by rw[hhh];rfl
 have e4:hh 4=(FHof (qm*qd) sK29 AK29 nK29 cK29 tK29 BK29 mK29 dK29):=by rw[hhh];rfl
 have e5:hh 5=(FHof ((qn-qm)*qu) sK35 AK35 nK35 cK35 tK35 BK35 mK35 dK35):=by rw[hhh];rfl
 have e6:hh 6=(FHof (qn*((qv+qp-ql)*(1+qi)-qv)) sK46 AK46 nK46 cK46 tK46 BK46 mK46 dK46):=by rw[hhh];rfl
 have e7:hh 7=(FHof (qn*(qv+qp-ql)*(qj-qi)) sK57 AK57 nK57 cK57 tK57 BK57 mK57 dK57):=by rw[hhh];rfl
 have e8:hh 8=(FHof ((qn*qq-qm)*(qd-qa)) sK78 AK78 nK78 cK78 tK78 BK78 mK78 dK78):=by rw[hhh];rfl
 have e9:hh 9=(FHof ((qn-qm)*qa-(qn-qm)*qu) sK94 AK94 nK94 cK94 tK94 BK94 mK94 dK94):=by rw[hhh];rfl
 clear hhh;refine hend _ _ hh (hk.get rfl) hk.2.1 hBk (fun k hk=> ?_) hBel
 rcases k with _|_|_|_|_|_|_|_|_|_|k
 ·show FV _ _ (hh 0).s (hh 0).A (hh 0).n (hh 0).t (hh 0).B (hh 0).m;rw[e0];exact r0
 ·show FV _ _ (hh 1).s (hh 1).A (hh 1).n (hh 1).t (hh 1).B (hh 1).m;rw[e1];exact r1
 ·show FV _ _ (hh 2).s (hh 2).A (hh 2).n (hh 2).t (hh 2).B (hh 2).m;rw[e2];exact r2
 ·show FV _ _ (hh 3).s (hh 3).A (hh 3).n (hh 3).t (hh 3).B (hh 3).m;rw[e3];exact r3
 ·show FV _ _ (hh 4).s (hh 4).A (hh 4).n (hh 4).t (hh 4).B (hh 4).m;rw[e4];exact r4
 ·show FV _ _ (hh 5).s (hh 5).A (hh 5).n (hh 5).t (hh 5).B (hh 5).m;rw[e5];exact r5
 ·show FV _ _ (hh 6).s (hh 6).A (hh 6).n (hh 6).t (hh 6).B (hh 6).m;rw[e6];exact r6
 ·show FV _ _ (hh 7).s (hh 7).A (hh 7).n (hh 7).t (hh 7).B (hh 7).m;rw[e7];exact r7
 ·show FV _ _ (hh 8).s (hh 8).A (hh 8).n (hh 8).t (hh 8).B (hh 8).m;rw[e8];exact r8
 ·show FV _ _ (hh 9).s (hh 9).A (hh 9).n (hh 9).t (hh 9).B (hh 9).m;rw[e9];exact r9
 ·exact absurd hk (by omega)
theorem fl_i40 {z:Int}(h1:-1099511627776<=z)(h2:z<=1099511627776):fl ((z:Int):Rat)<=256:=by
 have h:=Sz.int z (M:=b16^3) (by
  have:b16^3=281474976710656:=by decide
  omega)
 exact Nat.le_trans (h.fl (k:=3) (j:=0) (by decide) (by decide) (Nat.le_refl _) (by decide)) (by decide)
theorem esum1_v {x:Ct}{gw:Nat}{gA gD:Int}{b0 b1:Bh}{j:FH}{t u:Nat}{qv qa qu qp ql qd qi qj qq qn qm:Rat}{w:World}(hqv:b0.val x (b0.cnt x) t=qv)(hqa:b0.val x (b0.cnt x) u=qa)(hqu:b1.val x (b1.cnt x) u=qu)(hqp:pay x.T.toNat x.p.q t=qp)(hql:amt x.l x.n t=ql)(hqd:amt x.k x.m t=qd)(hqi:b0.i.q=qi)(hqj:j.q=qj)(hqq:b0.rt x.E x.Y t=qq)(hqn:((gA:Int):Rat)=qn)(hqm:((gD:Int):Rat)=qm)(hu:u=t+1)(hb:b0.rd w)(hd:b1.rd w)(hx:x.rd w)(hj:j.rd w)(hbb:b0.bd)(hdb:b1.bd)(hxb:x.bd)(hS:GrS b0 b1 ⟨x,(t:Int),gA,gD⟩)(hJ:JOK j)(hW:Blk 125 gw (wkC x (t:Int) gA gD b0 b1 j) w)(hL:ItL qv qa qu qp ql qd qi qj qq qn qm):
  Calls Tryz.prog 96 #[.pointer (some ⟨gw,0,none⟩)] w (SumR (itm qv qa qu qp ql qd qi qj qq qn qm) w):=by
 have hW1:Blk 125 gw (wkE x t gA gD b0 b1 j) w:=hW;have hgw:=hW1.lt;have HhW:=Lib.hid hW1;clear hW1 hW;have hc0:b0.cnt x<=11/\Cnt b0.v (b0.rt x.E x.Y) (b0.cnt x):=hS.c0;have hc1:b1.cnt x<=11/\Cnt b1.v (b1.rt x.E x.Y) (b1.cnt x):=hS.c1;have hok0:x.ok b0:=hS.ok.1.1;have hok1:x.ok b1:=hS.ok.1.2;have ht:t<b0.cnt x:=hS.t0 hb;have hpr:=(Ct.prem hx hok0).1;have hI:=(Bh.fv hb hok0.1).1;have hJf:=(hJ.fv hj).1;rw[hqi] at hI;rw[hqj] at hJf
 have hbl:∀k,k<x.n->-9223372036854775808<=x.l k/\x.l k<=9223372036854775807:=fun k hk=>by have:=hok0.2.2.2.2.1.2 k hk;omega
 have hbk:∀k,k<x.m->-9223372036854775808<=x.k k/\x.k k<=9223372036854775807:=fun k hk=>by have:=hok0.2.2.2.2.2.2 k hk;omega
 have hnn:=hS.ok.2.2.1;have hn1:(0:Int)<=gA/\gA<=1099511627776/\0<=gD/\gD<=gA:=hnn;clear hnn
 have o1:IntKind.i64.wrap ((t:Int)+1)=(u:Int):=by rw[IntKind.wrap_i64];have:=hc0.1;omega
 have o2:IntKind.i64.wrap (gA-gD)=gA-gD:=by rw[IntKind.wrap_i64];omega
 have hqs:((gA-gD:Int):Rat)=qn-qm:=by rw[Rat.intCast_sub,hqn,hqm]
 have hcn0:=hc0.1;have hcn1:=hc1.1
 have hu64:u<=9223372036854775807:=by omega
 have ht64:t<=9223372036854775807:=by omega
 have hT:pay x.T.toNat x.p.q t=if(t:Int)<x.T then x.p.q else 0:=by unfold pay;have:=hok0.2.2.1.1;rcases Classical.em ((t:Int)<x.T) with h|h;(rw[if_pos h,if_pos (by omega)]);(rw[if_neg h,if_neg (by omega)])
 have hqpt:(t:Int)<x.T->x.p.q=qp:=fun h=>by rw[<-hqp,hT,if_pos h]
 have hqpf:¬(t:Int)<x.T->((0:Int):Rat)=qp:=fun h=>by rw[<-hqp,hT,if_neg h];rfl
 clear hT;have hri:b0.right x.E (x.Y+(t:Int)):=bh_rightE hok0 hc0.2 hc0.1 hS.n0 ht;have hti:=hbb.1
 have hmvb:-9223372036854775808<=x.Y+(t:Int)/\x.Y+(t:Int)<=9223372036854775807:=by have:0<=x.Y+(t:Int)/\x.Y+(t:Int)<=300:=hri.2.2.2;omega
 have Hhok0:=Lib.hid hok0;clear hok0;have Hhok1:=Lib.hid hok1;clear hok1;have Hhb:=Lib.hid hb;clear hb;have Hhd:=Lib.hid hd;clear hd;have Hhx:=Lib.hid hx;clear hx;have Hhj:=Lib.hid hj;clear hj;have Hhbb:=Lib.hid hbb;clear hbb;have Hhdb:=Lib.hid hdb;clear hdb;have Hhxb:=Lib.hid hxb;clear hxb;have HhS:=Lib.hid hS;clear hS;have HhJ:=Lib.hid hJ;clear hJ;have HhL:=Lib.hid hL;clear hL;have Hhqv:=Lib.hid hqv;clear hqv;have Hhqa:=Lib.hid hqa;clear hqa;have Hhqu:=Lib.hid hqu;clear hqu;have Hhqp:=Lib.hid hqp;clear hqp;have Hhql:=Lib.hid hql;clear hql;have Hhqd:=Lib.hid hqd;clear hqd;have Hhqi:=Lib.hid hqi;clear hqi;have Hhqj:=Lib.hid hqj;clear hqj;have Hhqq:=Lib.hid hqq;clear hqq;have Hhqn:=Lib.hid hqn;clear hqn;have Hhqm:=Lib.hid hqm;clear hqm;have Hhu:=Lib.hid hu;clear hu;have Hhc0:=Lib.hid hc0;clear hc0;have Hhc1:=Lib.hid hc1;clear hc1;have Hhpr:=Lib.hid hpr;clear hpr;have HhI:=Lib.hid hI;clear hI;have HhJf:=Lib.hid hJf;clear hJf;have Hhbl:=Lib.hid hbl;clear hbl;have Hhbk:=Lib.hid hbk;clear hbk;have Hhqs:=Lib.hid hqs;clear hqs;have Hhqpt:=Lib.hid hqpt;clear hqpt;have Hhqpf:=Lib.hid hqpf;clear hqpf;have Hhri:=Lib.hid hri;clear hri;have Hhti:=Lib.hid hti;clear hti;have hE:=(((((Env.start w).blkI HhW.out).fv HhI.out).fv HhJf.out).blk 126 #[.bool false,.slice none 0 0,.bool false,.slice none 0 0,.bool false,.slice none 0 0,.bool false,.slice none 0 0,.bool false,.slice none 0 0,.bool false,.slice none 0 0,.bool false,.slice none 0 0,.bool false,.slice none 0 0,.bool false,.slice none 0 0,.bool false,.slice none 0 0,.bool false,.slice none 0 0,.bool false,.slice none 0 0,.bool false,.slice none 0 0,.bool false,.slice none 0 0,.bool false,.slice none 0 0,.bool false,.slice none 0 0,.bool false,.slice none 0 0,.bool false,.slice none 0 0,.bool false,.slice none 0 0,.bool false,.slice none 0 0] (g:=w.heap.size) rfl)
 obtain⟨W0,hW0⟩:∃W0,W0=w.alloc (.cells #[.bool false,.slice none 0 0,.bool false,.slice none 0 0,.bool false,.slice none 0 0,.bool false,.slice none 0 0,.bool false,.slice none 0 0,.bool false,.slice none 0 0,.bool false,.slice none 0 0,.bool false,.slice none 0 0,.bool false,.slice none 0 0,.bool false,.slice none 0 0,.bool false,.slice none 0 0,.bool false,.slice none 0 0,.bool false,.slice none 0 0,.bool false,.slice none 0 0,.bool false,.slice none 0 0,.bool false,.slice none 0 0,.bool false,.slice none 0 0,.bool false,.slice none 0 0,.bool false,.slice none 0 0,.bool false,.slice none 0 0] 126):=⟨_,rfl⟩
 rw[<-hW0] at hE;have HW0:=Lib.hid hW0;clear hW0
 go_enter Tryz.func96,Tryz.ntmps96
 go_upto_region 1 with(fail)
 rw[<-HW0.out];replace hE:=hE.drew;refine wp_region_held_drew (S:=fun V=>Blk 125 (gw) (wkE x t gA gD b0 b1 j) V) (by kernel_rfl) (hE.h3) (fun hHeld=> ?_)
 generalize W0.drew=wd at*
 refine tk 0 ?_;refine tk 1 ?_;refine tk 2 ?_;refine tk 3 ?_
 refine tk 4 ?_ (hy:=by
  intro w hSw;have kc13:=(hSw).cell 13;have kc14:=(hSw).cell 14;have kc15:=(hSw).cell 15;have kc16:=(hSw).cell 16;have kc17:=(hSw).cell 17;have kc18:=(hSw).cell 18;have kc19:=(hSw).cell 19;clear hSw
  first|(go_simp;done)|(go_simp;with_reducible rfl))
 try simp only[PL]
 refine tk 5 ?_;refine tk 6 ?_;refine tk 7 ?_;refine tk 8 ?_
 refine tk 9 ?_ (hy:=by
  intro w hSw;have kc10:=(hSw).cell 10;clear hSw
  first|(go_simp;done)|(go_simp;with_reducible rfl))
 try simp only[PL]
 obtain⟨B1,hB1⟩:∃B,B=wd.heap.size:=⟨_,rfl⟩
 have hw1:w.heap.size<=B1:=by rw[hB1];exact hE.bel.size
 have hl1_0:gw<B1:=by rw[hB1];exact(hE.h3).lt
 have hl1_3:w.heap.size<B1:=by rw[hB1];exact(hE.here.2).lt
 refine iv_region (I:=IvInv w _ _ B1 [⟨10,28,RFq qv⟩,⟨11,3,ALq 29 qz4 B1⟩]) [10,11] (f1:=1) (by kernel_rfl) (by kernel_rfl) (by kernel_rfl) rfl (by kernel_rfl) (by kernel_rfl) (by rfl) (IvInv.start hE hB1 (by kernel_rfl)) ?steps3 ?end3
 case steps3=>
  have hst:∀g∈([⟨10,28,RFq qv⟩,⟨11,3,ALq 29 qz4 B1⟩]:List IvSlot),∀x,Stable (g.R x):=(fun g hg=>by simp only[List.mem_cons,List.not_mem_nil,or_false] at hg;rcases hg with rfl|rfl<;>first|exact RFq.stable _|exact ALq.stable _ _ _|exact TUq.stable _|exact ERq.stable _)
  clear hE hHeld hB1;refine IvSteps.cons (ds:=[0,4,9]) rfl (by kernel_rfl) (fun D a W0 hI hD K hK=> ?_) ?_
  ·
   have hE:=hI.here;obtain⟨xs,rfl,-,hF,-,-⟩:=id hI;obtain⟨x1_10,xs,rfl,h1_10,hF⟩:=hF.uncons;obtain⟨x1_11,xs,rfl,h1_11,hF⟩:=hF.uncons;obtain rfl:=hF.nil;clear hF;try simp only[ivPut,Act.put,List.setIfInBounds_toArray,List.set_cons_zero,List.set_cons_succ,List.getElem_toArray,List.getElem_cons_succ,List.getElem_cons_zero]
   go_simp;refine(calls_fr Hhqv.out (ereserve_v (b:=b0) (Bh.rd_below Hhb.out hE.bel) Hhbb.out (Ct.rd_below Hhx.out hE.bel) Hhxb.out Hhok0.out (b0.cnt x) Hhc0.out.2 (by omega) (show Blk _ gw (wkC x (t:Int) gA gD b0 b1 j) _ from hE.h3) t ht64)).mono ?_
   rintro e W1 ⟨sv,Av,nv,cv,tv,Bv,mv,dv,rfl,hv,hb⟩
   have hE2:=hE.step hb;go_wp2_with fail
   refine hK.out _ _ (hE2.here.1.1.1.2) ?_;exact hI.call (c:=cv) (d:=dv) 0 hst rfl (by kernel_rfl) (by kernel_rfl) (by kernel_rfl) hb hv
  refine IvSteps.cons (ds:=[]) rfl (by kernel_rfl) (fun D a W0 hI hD K hK=> ?_) ?_
  ·
   have hE:=hI.here;obtain⟨xs,rfl,-,hF,-,-⟩:=id hI;obtain⟨x1_10,xs,rfl,h1_10,hF⟩:=hF.uncons;obtain⟨x1_11,xs,rfl,h1_11,hF⟩:=hF.uncons;obtain rfl:=hF.nil;clear hF;try simp only[ivPut,Act.put,List.setIfInBounds_toArray,List.set_cons_zero,List.set_cons_succ,List.getElem_toArray,List.getElem_cons_succ,List.getElem_cons_zero]
   go_simp;have hE2:=hE.alloc (.cells qz4 29);refine hK.out _ _ (hE2.here.1.1.1.2) ?_;exact hI.alloc 1 hst rfl (by kernel_rfl) (by kernel_rfl) (by kernel_rfl)
  exact IvSteps.nil
 clear hE hHeld hB1;intro D a W1 hI hD;have hE:=hI.here;obtain⟨xs,rfl,-,hF,hA,-⟩:=id hI;clear hI;obtain⟨x1_10,xs,rfl,h1_10,hF⟩:=hF.uncons;obtain⟨x1_11,xs,rfl,h1_11,hF⟩:=hF.uncons;obtain rfl:=hF.nil;clear hF;obtain⟨sv,Av,nv,cv,tv,Bv,mv,dv,rfl,hq10⟩:=h1_10 (hD 10 (by simp));obtain⟨G1_11,rfl,hg1_11,hq11⟩:=h1_11 (hD 11 (by simp));replace hE:=((hE.fv hq10).blkI hq11);clear hA hD hq10 h1_10 hq11 h1_11;try simp only[ivPut,Act.put,List.setIfInBounds_toArray,List.set_cons_zero,List.set_cons_succ,List.getElem_toArray,List.getElem_cons_succ,List.getElem_cons_zero]
 have hHeld:(fun V=>Blk 125 (gw) (wkE x t gA gD b0 b1 j) V) W1:=hE.h5;refine r1 12 (fun K hK=> ?_)
 have hgl1:w.heap.size<=G1_11:=by omega
 obtain⟨x1_0,x1_1,x1_2,x1_3⟩:=(hE.here.2).c4;obtain⟨f1_0,f1_1,f1_2,f1_3⟩:=hE.here.2.f4;replace hE:=(((((((Env.again (bel4 hE.bel hgl1 (.bool sv) (.slice Av nv cv) (.bool tv) (.slice Bv mv dv))).blkI ((hE.h5).far4 (by omega) _ _ _ _)).fv ((hE.h4).sep4 hE.here.2 rfl _ _ _ _ rfl rfl rfl)).fv ((hE.h3).sep4 hE.here.2 rfl _ _ _ _ rfl rfl rfl)).blkI ((hE.h2).far4 (by omega) _ _ _ _)).fv ((hE.here.1.2).sep4 hE.here.2 rfl _ _ _ _ rfl rfl rfl)).blkI ((hE.here.2).s4 _ _ _ _));go_simp;clear x1_0 x1_1 x1_2 x1_3 f1_0 f1_1 f1_2 f1_3 hgl1;generalize ((((W1.setCell ⟨G1_11,0,none⟩ (.bool sv)).setCell ⟨G1_11,1,none⟩ (.slice Av nv cv)).setCell ⟨G1_11,2,none⟩ (.bool tv)).setCell ⟨G1_11,3,none⟩ (.slice Bv mv dv))=W1 at hE⊢;refine hK.out _ _ (hE.h5) (fun hHeld=> ?_);clear hK K;try simp only[PL]
 refine wpAnyH_done (by kernel_rfl) ?_ _
 go_upto_region 2 with(fail)
 clear hw1 hl1_0 hl1_3 hg1_11;replace hE:=hE.drew;refine wp_region_held_drew (S:=fun V=>Blk 125 (gw) (wkE x t gA gD b0 b1 j) V) (by kernel_rfl) (hE.h5) (fun hHeld=> ?_)
 generalize W1.drew=wd at*
 refine tk 0 ?_;refine tk 1 ?_;refine tk 2 ?_;refine tk 3 ?_
 refine tk 4 ?_ (hy:=by
  intro w hSw;have kc13:=(hSw).cell 13;have kc14:=(hSw).cell 14;have kc15:=(hSw).cell 15;have kc16:=(hSw).cell 16;have kc17:=(hSw).cell 17;have kc18:=(hSw).cell 18;have kc19:=(hSw).cell 19;clear hSw
  first|(go_simp;done)|(go_simp;with_reducible rfl))
 try simp only[PL]
 refine tk 5 ?_;refine tk 6 ?_;refine tk 7 ?_;refine tk 8 ?_
 refine tk 9 ?_ (hy:=by
  intro w hSw;have kc10:=(hSw).cell 10;clear hSw
  first|(go_simp;done)|(go_simp;with_reducible rfl))
 try simp only[PL]
 refine tk 10 ?_;refine tk 12 ?_;refine tk 13 ?_;refine tk 14 ?_;refine tk 15 ?_
 refine tk 16 ?_ (hy:=by
  intro w hSw;have kc20:=(hSw).cell 20;have kc21:=(hSw).cell 21;have kc22:=(hSw).cell 22;have kc23:=(hSw).cell 23;have kc24:=(hSw).cell 24;have kc25:=(hSw).cell 25;have kc26:=(hSw).cell 26;clear hSw
  first|(go_simp;done)|(go_simp;with_reducible rfl))
 try simp only[PL]
 refine tk 17 ?_;refine tk 18 ?_;refine tk 19 ?_;refine tk 20 ?_
 refine tk 21 ?_ (hy:=by
  intro w hSw;have kc10:=(hSw).cell 10;clear hSw
  first|(go_simp;done)|(go_simp;with_reducible rfl))
 try simp only[PL]
 refine tk 22 ?_
 obtain⟨B2,hB2⟩:∃B,B=wd.heap.size:=⟨_,rfl⟩
 have hw2:w.heap.size<=B2:=by rw[hB2];exact hE.bel.size
 have hl2_0:gw<B2:=by rw[hB2];exact(hE.h5).lt
 have hl2_3:w.heap.size<B2:=by rw[hB2];exact(hE.h2).lt
 have hl2_5:G1_11<B2:=by rw[hB2];exact(hE.here.2).lt
 refine iv_region (I:=IvInv w _ _ B2 [⟨11,40,RFq qa⟩,⟨23,52,RFq qu⟩,⟨24,4,ALq 29 qz4 B2⟩,⟨25,5,ALq 29 qz4 B2⟩]) [11,23,24,25] (f1:=2) (by kernel_rfl) (by kernel_rfl) (by kernel_rfl) rfl (by kernel_rfl) (by kernel_rfl) (by rfl) (IvInv.start hE hB2 (by kernel_rfl)) ?steps4 ?end4
 case steps4=>
  have hst:∀g∈([⟨11,40,RFq qa⟩,⟨23,52,RFq qu⟩,⟨24,4,ALq 29 qz4 B2⟩,⟨25,5,ALq 29 qz4 B2⟩]:List IvSlot),∀x,Stable (g.R x):=(fun g hg=>by simp only[List.mem_cons,List.not_mem_nil,or_false] at hg;rcases hg with rfl|rfl|rfl|rfl<;>first|exact RFq.stable _|exact ALq.stable _ _ _|exact TUq.stable _|exact ERq.stable _)
  clear hE hHeld hB2;refine IvSteps.cons (ds:=[0,4,10]) rfl (by kernel_rfl) (fun D a W0 hI hD K hK=> ?_) ?_
  ·
   have hE:=hI.here;obtain⟨xs,rfl,-,hF,-,-⟩:=id hI;obtain⟨x2_11,xs,rfl,h2_11,hF⟩:=hF.uncons;obtain⟨x2_23,xs,rfl,h2_23,hF⟩:=hF.uncons;obtain⟨x2_24,xs,rfl,h2_24,hF⟩:=hF.uncons;obtain⟨x2_25,xs,rfl,h2_25,hF⟩:=hF.uncons;obtain rfl:=hF.nil;clear hF;try simp only[ivPut,Act.put,List.setIfInBounds_toArray,List.set_cons_zero,List.set_cons_succ,List.getElem_toArray,List.getElem_cons_succ,List.getElem_cons_zero]
   go_simp;refine(calls_fr Hhqa.out (ereserve_v (b:=b0) (Bh.rd_below Hhb.out hE.bel) Hhbb.out (Ct.rd_below Hhx.out hE.bel) Hhxb.out Hhok0.out (b0.cnt x) Hhc0.out.2 (by omega) (show Blk _ gw (wkC x (t:Int) gA gD b0 b1 j) _ from hE.h5) u hu64)).mono ?_
   rintro e W1 ⟨sa,Aa,na,ca,ta,Ba,ma,da,rfl,hv,hb⟩
   have hE2:=hE.step hb;go_wp2_with fail
   refine hK.out _ _ (hE2.here.1.1.1.1.1.2) ?_;exact hI.call (c:=ca) (d:=da) 0 hst rfl (by kernel_rfl) (by kernel_rfl) (by kernel_rfl) hb hv
  refine IvSteps.cons (ds:=[12,16,22,11]) rfl (by kernel_rfl) (fun D a W0 hI hD K hK=> ?_) ?_
  ·
   have hE:=hI.here;obtain⟨xs,rfl,-,hF,-,-⟩:=id hI;obtain⟨x2_11,xs,rfl,h2_11,hF⟩:=hF.uncons;obtain⟨x2_23,xs,rfl,h2_23,hF⟩:=hF.uncons;obtain⟨x2_24,xs,rfl,h2_24,hF⟩:=hF.uncons;obtain⟨x2_25,xs,rfl,h2_25,hF⟩:=hF.uncons;obtain rfl:=hF.nil;clear hF;try simp only[ivPut,Act.put,List.setIfInBounds_toArray,List.set_cons_zero,List.set_cons_succ,List.getElem_toArray,List.getElem_cons_succ,List.getElem_cons_zero]
   go_simp;refine(calls_fr Hhqu.out (ereserve_v (b:=b1) (Bh.rd_below Hhd.out hE.bel) Hhdb.out (Ct.rd_below Hhx.out hE.bel) Hhxb.out Hhok1.out (b1.cnt x) Hhc1.out.2 (by omega) (show Blk _ gw (wkC x (t:Int) gA gD b0 b1 j) _ from hE.h5) u hu64)).mono ?_
   rintro e W1 ⟨su,Au,nu,cu,tu,Bu,mu,du,rfl,hv,hb⟩
   have hE2:=hE.step hb;go_wp2_with fail
   refine hK.out _ _ (hE2.here.1.1.1.1.1.2) ?_;exact hI.call (c:=cu) (d:=du) 1 hst rfl (by kernel_rfl) (by kernel_rfl) (by kernel_rfl) hb hv
  refine IvSteps.cons (ds:=[]) rfl (by kernel_rfl) (fun D a W0 hI hD K hK=> ?_) ?_
  ·
   have hE:=hI.here;obtain⟨xs,rfl,-,hF,-,-⟩:=id hI;obtain⟨x2_11,xs,rfl,h2_11,hF⟩:=hF.uncons;obtain⟨x2_23,xs,rfl,h2_23,hF⟩:=hF.uncons;obtain⟨x2_24,xs,rfl,h2_24,hF⟩:=hF.uncons;obtain⟨x2_25,xs,rfl,h2_25,hF⟩:=hF.uncons;obtain rfl:=hF.nil;clear hF;try simp only[ivPut,Act.put,List.setIfInBounds_toArray,List.set_cons_zero,List.set_cons_succ,List.getElem_toArray,List.getElem_cons_succ,List.getElem_cons_zero]
   go_simp;have hE2:=hE.alloc (.cells qz4 29);refine hK.out _ _ (hE2.here.1.1.1.1.1.2) ?_;exact hI.alloc 2 hst rfl (by kernel_rfl) (by kernel_rfl) (by kernel_rfl)
  refine IvSteps.cons (ds:=[]) rfl (by kernel_rfl) (fun D a W0 hI hD K hK=> ?_) ?_
  ·
   have hE:=hI.here;obtain⟨xs,rfl,-,hF,-,-⟩:=id hI;obtain⟨x2_11,xs,rfl,h2_11,hF⟩:=hF.uncons;obtain⟨x2_23,xs,rfl,h2_23,hF⟩:=hF.uncons;obtain⟨x2_24,xs,rfl,h2_24,hF⟩:=hF.uncons;obtain⟨x2_25,xs,rfl,h2_25,hF⟩:=hF.uncons;obtain rfl:=hF.nil;clear hF;try simp only[ivPut,Act.put,List.setIfInBounds_toArray,List.set_cons_zero,List.set_cons_succ,List.getElem_toArray,List.getElem_cons_succ,List.getElem_cons_zero]
   go_simp;have hE2:=hE.alloc (.cells qz4 29);refine hK.out _ _ (hE2.here.1.1.1.1.1.2) ?_;exact hI.alloc 3 hst rfl (by kernel_rfl) (by kernel_rfl) (by kernel_rfl)
  exact IvSteps.nil
 clear hE hHeld hB2;intro D a W2 hI hD;have hE:=hI.here;obtain⟨xs,rfl,-,hF,hA,-⟩:=id hI;clear hI;obtain⟨x2_11,xs,rfl,h2_11,hF⟩:=hF.uncons;obtain⟨x2_23,xs,rfl,h2_23,hF⟩:=hF.uncons;obtain⟨x2_24,xs,rfl,h2_24,hF⟩:=hF.uncons;obtain⟨x2_25,xs,rfl,h2_25,hF⟩:=hF.uncons;obtain rfl:=hF.nil;clear hF;obtain⟨sa,Aa,na,ca,ta,Ba,ma,da,rfl,hq11⟩:=h2_11 (hD 11 (by simp));obtain⟨su,Au,nu,cu,tu,Bu,mu,du,rfl,hq23⟩:=h2_23 (hD 23 (by simp));obtain⟨G2_24,rfl,hg2_24,hq24⟩:=h2_24 (hD 24 (by simp));obtain⟨G2_25,rfl,hg2_25,hq25⟩:=h2_25 (hD 25 (by simp));have hn2_24_25:=hA.ne 2 3 (by decide) rfl rfl rfl rfl (hD 24 (by simp)) (hD 25 (by simp));replace hE:=((((hE.fv hq11).fv hq23).blkI hq24).blkI hq25);clear hA hD hq11 h2_11 hq23 h2_23 hq24 h2_24 hq25 h2_25;try simp only[ivPut,Act.put,List.setIfInBounds_toArray,List.set_cons_zero,List.set_cons_succ,List.getElem_toArray,List.getElem_cons_succ,List.getElem_cons_zero]
 have hHeld:(fun V=>Blk 125 (gw) (wkE x t gA gD b0 b1 j) V) W2:=hE.h9;refine r1 26 (fun K hK=> ?_)
 have hgl2:w.heap.size<=G2_24:=by omega
 obtain⟨x2_0,x2_1,x2_2,x2_3⟩:=(hE.here.1.2).c4;obtain⟨f2_0,f2_1,f2_2,f2_3⟩:=hE.here.1.2.f4;replace hE:=(((((((((((Env.again (bel4 hE.bel hgl2 (.bool sa) (.slice Aa na ca) (.bool ta) (.slice Ba ma da))).blkI ((hE.h9).far4 (by omega) _ _ _ _)).fv ((hE.h8).sep4 hE.here.1.2 rfl _ _ _ _ rfl rfl rfl)).fv ((hE.h7).sep4 hE.here.1.2 rfl _ _ _ _ rfl rfl rfl)).blkI ((hE.h6).far4 (by omega) _ _ _ _)).fv ((hE.h5).sep4 hE.here.1.2 rfl _ _ _ _ rfl rfl rfl)).blkI ((hE.h4).far4 (by omega) _ _ _ _)).fv ((hE.h3).sep4 hE.here.1.2 rfl _ _ _ _ rfl rfl rfl)).fv ((hE.h2).sep4 hE.here.1.2 rfl _ _ _ _ rfl rfl rfl)).blkI ((hE.here.1.2).s4 _ _ _ _)).blkI ((hE.here.2).far4 (by omega) _ _ _ _));go_simp;clear x2_0 x2_1 x2_2 x2_3 f2_0 f2_1 f2_2 f2_3 hgl2;generalize ((((W2.setCell ⟨G2_24,0,none⟩ (.bool sa)).setCell ⟨G2_24,1,none⟩ (.slice Aa na ca)).setCell ⟨G2_24,2,none⟩ (.bool ta)).setCell ⟨G2_24,3,none⟩ (.slice Ba ma da))=W2 at hE⊢;refine hK.out _ _ (hE.h9) (fun hHeld=> ?_);clear hK K;try simp only[PL]
 refine r1 27 (fun K hK=> ?_)
 have hgl3:w.heap.size<=G2_25:=by omega
 obtain⟨x3_0,x3_1,x3_2,x3_3⟩:=(hE.here.2).c4;obtain⟨f3_0,f3_1,f3_2,f3_3⟩:=hE.here.2.f4;replace hE:=(((((((((((Env.again (bel4 hE.bel hgl3 (.bool su) (.slice Au nu cu) (.bool tu) (.slice Bu mu du))).blkI ((hE.h9).far4 (by omega) _ _ _ _)).fv ((hE.h8).sep4 hE.here.2 rfl _ _ _ _ rfl rfl rfl)).fv ((hE.h7).sep4 hE.here.2 rfl _ _ _ _ rfl rfl rfl)).blkI ((hE.h6).far4 (by omega) _ _ _ _)).fv ((hE.h5).sep4 hE.here.2 rfl _ _ _ _ rfl rfl rfl)).blkI ((hE.h4).far4 (by omega) _ _ _ _)).fv ((hE.h3).sep4 hE.here.2 rfl _ _ _ _ rfl rfl rfl)).fv ((hE.h2).sep4 hE.here.2 rfl _ _ _ _ rfl rfl rfl)).blkI ((hE.here.1.2).far4 (by omega) _ _ _ _)).blkI ((hE.here.2).s4 _ _ _ _));go_simp;clear x3_0 x3_1 x3_2 x3_3 f3_0 f3_1 f3_2 f3_3 hgl3;generalize ((((W2.setCell ⟨G2_25,0,none⟩ (.bool su)).setCell ⟨G2_25,1,none⟩ (.slice Au nu cu)).setCell ⟨G2_25,2,none⟩ (.bool tu)).setCell ⟨G2_25,3,none⟩ (.slice Bu mu du))=W3 at hE⊢;refine hK.out _ _ (hE.h9) (fun hHeld=> ?_);clear hK K;try simp only[PL]
 refine wpAnyH_done (by kernel_rfl) ?_ _
 go_upto_region 3 with(fail)
 clear hw2 hl2_0 hl2_3 hl2_5 hg2_24 hg2_25 hn2_24_25;go_wp2_with fail
 refine hE.fr (ffromInt_v 0 _ (by decide) (by decide)) ?_;clear hE;intro sz Az nz cz tz Bz mz dz w4 hE
 go_upto_region 4 with(fail)
 obtain⟨g5,hg5⟩:∃g5,g5=w4.heap.size:=⟨_,rfl⟩
 have hl5_0:gw<g5:=by rw[hg5];exact(hE.h10).lt
 have hl5_3:w.heap.size<g5:=by rw[hg5];exact(hE.h7).lt
 have hl5_5:G1_11<g5:=by rw[hg5];exact(hE.h5).lt
 have hl5_8:G2_24<g5:=by rw[hg5];exact(hE.h2).lt
 have hl5_9:G2_25<g5:=by rw[hg5];exact(hE.here.1.2).lt
 replace hE:=hE.blk 29 (qf4 sz Az nz cz tz Bz mz dz) (g:=g5) hg5.symm;generalize w4.alloc (.cells (qf4 sz Az nz cz tz Bz mz dz) 29)=W5 at hE⊢;rw[<-hg5];clear hg5;replace hE:=hE.drew;refine wp_region_held_drew (S:=fun V=>Blk 125 (gw) (wkE x t gA gD b0 b1 j) V) (by kernel_rfl) (hE.h11) (fun hHeld=> ?_)
 generalize W5.drew=wd at*
 refine tk 0 ?_;refine tk 1 ?_;refine tk 2 ?_;refine tk 3 ?_
 refine tk 4 ?_ (hy:=by
  intro w hSw;have kc10:=(hSw).cell 10;clear hSw
  first|(go_simp;done)|(go_simp;with_reducible rfl))
 try simp only[PL]
 refine tk 5 ?_;refine tk 6 ?_;refine tk 7 ?_;refine tk 8 ?_;refine tk 9 ?_
 refine tk 10 ?_ (hy:=by
  intro w hSw;have kc3:=(hSw).cell 3;clear hSw
  first|(go_simp;done)|(go_simp;with_reducible rfl))
 try simp only[PL]
 refine tk 11 ?_;refine wpAnyH_done (by kernel_rfl) ?_ _
 go_upto_if 65 with(fail)
 go_cut [6] from 18 to 72 (fun p wx=>∃sp Ap np cp tp Bp mp dp,p= .pointer (some ⟨g5,0,none⟩)/\Env w (fun V=>((((((((((((True/\Blk 125 (gw) (wkE x t gA gD b0 b1 j) V)/\FV V qi b0.i.s b0.i.A b0.i.n b0.i.t b0.i.B b0.i.m)/\FV V qj j.s j.A j.n j.t j.B j.m)/\Blk 126 (w.heap.size) #[.bool false,.slice none 0 0,.bool false,.slice none 0 0,.bool false,.slice none 0 0,.bool false,.slice none 0 0,.bool false,.slice none 0 0,.bool false,.slice none 0 0,.bool false,.slice none 0 0,.bool false,.slice none 0 0,.bool false,.slice none 0 0,.bool false,.slice none 0 0,.bool false,.slice none 0 0,.bool false,.slice none 0 0,.bool false,.slice none 0 0,.bool false,.slice none 0 0,.bool false,.slice none 0 0,.bool false,.slice none 0 0,.bool false,.slice none 0 0,.bool false,.slice none 0 0,.bool false,.slice none 0 0,.bool false,.slice none 0 0] V)/\FV V qv sv Av nv tv Bv mv)/\Blk 29 (G1_11) (qf4 sv Av nv cv tv Bv mv dv) V)/\FV V qa sa Aa na ta Ba ma)/\FV V qu su Au nu tu Bu mu)/\Blk 29 (G2_24) (qf4 sa Aa na ca ta Ba ma da) V)/\Blk 29 (G2_25) (qf4 su Au nu cu tu Bu mu du) V)/\Blk 29 (g5) (qf4 sp Ap np cp tp Bp mp dp) V)/\FV V qp sp Ap np tp Bp mp)) wx)
 case first=>
  by_cases hT:(t:Int)<x.T
  ·
   have d1:decide ((t:Int)<x.T)=true:=decide_eq_true hT;have hpq:=Hhpr.out.below hE.bel;rw[Hhqpt.out hT] at hpq;replace hE:=hE.fv hpq;clear hpq;have k6:=(hE.h12).cell 4;have k7:=(hE.h12).cell 5;have k8:=(hE.h12).cell 6;have k9:=(hE.h12).cell 7
   have hgl10:w.heap.size<=g5:=by omega
   obtain⟨x10_0,x10_1,x10_2,x10_3⟩:=(hE.here.1.2).c4;obtain⟨f10_0,f10_1,f10_2,f10_3⟩:=hE.here.1.2.f4;replace hE:=((((((((((((((Env.again (bel4 hE.bel hgl10 (.bool x.p.s) (.slice x.p.A x.p.n x.p.c) (.bool x.p.t) (.slice x.p.B x.p.m x.p.d))).blkI ((hE.h12).far4 (by omega) _ _ _ _)).fv ((hE.h11).sep4 hE.here.1.2 rfl _ _ _ _ rfl rfl rfl)).fv ((hE.h10).sep4 hE.here.1.2 rfl _ _ _ _ rfl rfl rfl)).blkI ((hE.h9).far4 (by omega) _ _ _ _)).fv ((hE.h8).sep4 hE.here.1.2 rfl _ _ _ _ rfl rfl rfl)).blkI ((hE.h7).far4 (by omega) _ _ _ _)).fv ((hE.h6).sep4 hE.here.1.2 rfl _ _ _ _ rfl rfl rfl)).fv ((hE.h5).sep4 hE.here.1.2 rfl _ _ _ _ rfl rfl rfl)).blkI ((hE.h4).far4 (by omega) _ _ _ _)).blkI ((hE.h3).far4 (by omega) _ _ _ _)).fv ((hE.h2).sep4 hE.here.1.2 rfl _ _ _ _ rfl rfl rfl)).blkI ((hE.here.1.2).s4 _ _ _ _)).fv ((hE.here.2).sep4 hE.here.1.2 rfl _ _ _ _ rfl rfl rfl));go_wp2_with fail
   clear x10_0 x10_1 x10_2 x10_3 f10_0 f10_1 f10_2 f10_3 hgl10;generalize ((((wd.setCell ⟨g5,0,none⟩ (.bool x.p.s)).setCell ⟨g5,1,none⟩ (.slice x.p.A x.p.n x.p.c)).setCell ⟨g5,2,none⟩ (.bool x.p.t)).setCell ⟨g5,3,none⟩ (.slice x.p.B x.p.m x.p.d))=W10 at hE⊢;clear k6 k7 k8 k9;go_meet
   exact⟨x.p.s,x.p.A,x.p.n,x.p.c,x.p.t,x.p.B,x.p.m,x.p.d,rfl,(((((((((((((Env.again hE.bel).blkI (hE.h12)).fv (hE.h11)).fv (hE.h10)).blkI (hE.h9)).fv (hE.h8)).blkI (hE.h7)).fv (hE.h6)).fv (hE.h5)).blkI (hE.h4)).blkI (hE.h3)).blkI (hE.here.1.2)).fv (hE.here.2))⟩
  ·
   have d1:decide ((t:Int)<x.T)=false:=decide_eq_false hT;go_wp2_with fail
   go_meet
   exact⟨sz,Az,nz,cz,tz,Bz,mz,dz,rfl,(((((((((((((Env.again hE.bel).blkI (hE.h11)).fv (hE.h10)).fv (hE.h9)).blkI (hE.h8)).fv (hE.h7)).blkI (hE.h6)).fv (hE.h5)).fv (hE.h4)).blkI (hE.h3)).blkI (hE.h2)).blkI (hE.here.2)).fv (show FV _ qp _ _ _ _ _ _ from by rw[<-Hhqpf.out hT];exact hE.here.1.2))⟩
 case rest=>
 clear hE;obtain⟨sp,Ap,np,cp,tp,Bp,mp,dp,rfl,hE⟩:=hcut;generalize wc=wk4 at hE⊢
 go_upto_region 6 with(fail)
 replace hE:=hE.drew;refine wp_region_held_drew (S:=fun V=>Blk 125 (gw) (wkE x t gA gD b0 b1 j) V) (by kernel_rfl) (hE.h11) (fun hHeld=> ?_)
 generalize wk4.drew=wd at*
 refine tk 0 ?_;refine tk 1 ?_;refine tk 2 ?_;refine tk 3 ?_;refine tk 4 ?_
 refine tk 5 ?_ (hy:=by
  intro w hSw;have kc8:=(hSw).cell 8;clear hSw
  first|(go_simp;done)|(go_simp;with_reducible rfl))
 try simp only[PL]
 refine tk 6 ?_;refine tk 7 ?_;refine tk 8 ?_;refine tk 9 ?_
 refine tk 10 ?_ (hy:=by
  intro w hSw;have kc10:=(hSw).cell 10;clear hSw
  first|(go_simp;done)|(go_simp;with_reducible rfl))
 try simp only[PL]
 refine tk 12 ?_;refine tk 13 ?_;refine tk 14 ?_;refine tk 15 ?_;refine tk 16 ?_
 refine tk 17 ?_ (hy:=by
  intro w hSw;have kc9:=(hSw).cell 9;clear hSw
  first|(go_simp;done)|(go_simp;with_reducible rfl))
 try simp only[PL]
 refine tk 18 ?_;refine tk 19 ?_;refine tk 20 ?_;refine tk 21 ?_
 refine tk 22 ?_ (hy:=by
  intro w hSw;have kc10:=(hSw).cell 10;clear hSw
  first|(go_simp;done)|(go_simp;with_reducible rfl))
 try simp only[PL]
 obtain⟨B6,hB6⟩:∃B,B=wd.heap.size:=⟨_,rfl⟩
 have hw6:w.heap.size<=B6:=by rw[hB6];exact hE.bel.size
 have hl6_0:gw<B6:=by rw[hB6];exact(hE.h11).lt
 have hl6_3:w.heap.size<B6:=by rw[hB6];exact(hE.h8).lt
 have hl6_5:G1_11<B6:=by rw[hB6];exact(hE.h6).lt
 have hl6_8:G2_24<B6:=by rw[hB6];exact(hE.h3).lt
 have hl6_9:G2_25<B6:=by rw[hB6];exact(hE.h2).lt
 have hl6_10:g5<B6:=by rw[hB6];exact(hE.here.1.2).lt
 refine iv_region (I:=IvInv w _ _ B6 [⟨11,83,RFq ql⟩,⟨23,95,RFq qd⟩,⟨24,7,ALq 29 qz4 B6⟩,⟨25,8,ALq 29 qz4 B6⟩]) [11,23,24,25] (f1:=2) (by kernel_rfl) (by kernel_rfl) (by kernel_rfl) rfl (by kernel_rfl) (by kernel_rfl) (by rfl) (IvInv.start hE hB6 (by kernel_rfl)) ?steps6 ?end6
 case steps6=>
  have hst:∀g∈([⟨11,83,RFq ql⟩,⟨23,95,RFq qd⟩,⟨24,7,ALq 29 qz4 B6⟩,⟨25,8,ALq 29 qz4 B6⟩]:List IvSlot),∀x,Stable (g.R x):=(fun g hg=>by simp only[List.mem_cons,List.not_mem_nil,or_false] at hg;rcases hg with rfl|rfl|rfl|rfl<;>first|exact RFq.stable _|exact ALq.stable _ _ _|exact TUq.stable _|exact ERq.stable _)
  clear hE hHeld hB6;refine IvSteps.cons (ds:=[5,10]) rfl (by kernel_rfl) (fun D a W0 hI hD K hK=> ?_) ?_
  ·
   have hE:=hI.here;obtain⟨xs,rfl,-,hF,-,-⟩:=id hI;obtain⟨x6_11,xs,rfl,h6_11,hF⟩:=hF.uncons;obtain⟨x6_23,xs,rfl,h6_23,hF⟩:=hF.uncons;obtain⟨x6_24,xs,rfl,h6_24,hF⟩:=hF.uncons;obtain⟨x6_25,xs,rfl,h6_25,hF⟩:=hF.uncons;obtain rfl:=hF.nil;clear hF;try simp only[ivPut,Act.put,List.setIfInBounds_toArray,List.set_cons_zero,List.set_cons_succ,List.getElem_toArray,List.getElem_cons_succ,List.getElem_cons_zero]
   go_simp;refine(calls_fr Hhql.out (eamount_v (Ct.rd_below Hhx.out hE.bel).2.1 Hhbl.out t ht64)).mono ?_
   rintro e W1 ⟨sl,Al,nl,cl,tl,Bl,ml,dl,rfl,hv,hb⟩
   have hE2:=hE.step hb;go_wp2_with fail
   refine hK.out _ _ (hE2.here.1.1.1.1.1.1.1.1.1.1.1.2) ?_;exact hI.call (c:=cl) (d:=dl) 0 hst rfl (by kernel_rfl) (by kernel_rfl) (by kernel_rfl) hb hv
  refine IvSteps.cons (ds:=[17,22,11]) rfl (by kernel_rfl) (fun D a W0 hI hD K hK=> ?_) ?_
  ·
   have hE:=hI.here;obtain⟨xs,rfl,-,hF,-,-⟩:=id hI;obtain⟨x6_11,xs,rfl,h6_11,hF⟩:=hF.uncons;obtain⟨x6_23,xs,rfl,h6_23,hF⟩:=hF.uncons;obtain⟨x6_24,xs,rfl,h6_24,hF⟩:=hF.uncons;obtain⟨x6_25,xs,rfl,h6_25,hF⟩:=hF.uncons;obtain rfl:=hF.nil;clear hF;try simp only[ivPut,Act.put,List.setIfInBounds_toArray,List.set_cons_zero,List.set_cons_succ,List.getElem_toArray,List.getElem_cons_succ,List.getElem_cons_zero]
   go_simp;refine(calls_fr Hhqd.out (eamount_v (Ct.rd_below Hhx.out hE.bel).2.2 Hhbk.out t ht64)).mono ?_
   rintro e W1 ⟨sd,Ad,nd,cd,td,Bd,md,dd,rfl,hv,hb⟩
   have hE2:=hE.step hb;go_wp2_with fail
   refine hK.out _ _ (hE2.here.1.1.1.1.1.1.1.1.1.1.1.2) ?_;exact hI.call (c:=cd) (d:=dd) 1 hst rfl (by kernel_rfl) (by kernel_rfl) (by kernel_rfl) hb hv
  refine IvSteps.cons (ds:=[]) rfl (by kernel_rfl) (fun D a W0 hI hD K hK=> ?_) ?_
  ·
   have hE:=hI.here;obtain⟨xs,rfl,-,hF,-,-⟩:=id hI;obtain⟨x6_11,xs,rfl,h6_11,hF⟩:=hF.uncons;obtain⟨x6_23,xs,rfl,h6_23,hF⟩:=hF.uncons;obtain⟨x6_24,xs,rfl,h6_24,hF⟩:=hF.uncons;obtain⟨x6_25,xs,rfl,h6_25,hF⟩:=hF.uncons;obtain rfl:=hF.nil;clear hF;try simp only[ivPut,Act.put,List.setIfInBounds_toArray,List.set_cons_zero,List.set_cons_succ,List.getElem_toArray,List.getElem_cons_succ,List.getElem_cons_zero]
   go_simp;have hE2:=hE.alloc (.cells qz4 29);refine hK.out _ _ (hE2.here.1.1.1.1.1.1.1.1.1.1.1.2) ?_;exact hI.alloc 2 hst rfl (by kernel_rfl) (by kernel_rfl) (by kernel_rfl)
  refine IvSteps.cons (ds:=[]) rfl (by kernel_rfl) (fun D a W0 hI hD K hK=> ?_) ?_
  ·
   have hE:=hI.here;obtain⟨xs,rfl,-,hF,-,-⟩:=id hI;obtain⟨x6_11,xs,rfl,h6_11,hF⟩:=hF.uncons;obtain⟨x6_23,xs,rfl,h6_23,hF⟩:=hF.uncons;obtain⟨x6_24,xs,rfl,h6_24,hF⟩:=hF.uncons;obtain⟨x6_25,xs,rfl,h6_25,hF⟩:=hF.uncons;obtain rfl:=hF.nil;clear hF;try simp only[ivPut,Act.put,List.setIfInBounds_toArray,List.set_cons_zero,List.set_cons_succ,List.getElem_toArray,List.getElem_cons_succ,List.getElem_cons_zero]
   go_simp;have hE2:=hE.alloc (.cells qz4 29);refine hK.out _ _ (hE2.here.1.1.1.1.1.1.1.1.1.1.1.2) ?_;exact hI.alloc 3 hst rfl (by kernel_rfl) (by kernel_rfl) (by kernel_rfl)
  exact IvSteps.nil
 clear hE hHeld hB6;intro D a W6 hI hD;have hE:=hI.here;obtain⟨xs,rfl,-,hF,hA,-⟩:=id hI;clear hI;obtain⟨x6_11,xs,rfl,h6_11,hF⟩:=hF.uncons;obtain⟨x6_23,xs,rfl,h6_23,hF⟩:=hF.uncons;obtain⟨x6_24,xs,rfl,h6_24,hF⟩:=hF.uncons;obtain⟨x6_25,xs,rfl,h6_25,hF⟩:=hF.uncons;obtain rfl:=hF.nil;clear hF;obtain⟨sl,Al,nl,cl,tl,Bl,ml,dl,rfl,hq11⟩:=h6_11 (hD 11 (by simp));obtain⟨sd,Ad,nd,cd,td,Bd,md,dd,rfl,hq23⟩:=h6_23 (hD 23 (by simp));obtain⟨G6_24,rfl,hg6_24,hq24⟩:=h6_24 (hD 24 (by simp));obtain⟨G6_25,rfl,hg6_25,hq25⟩:=h6_25 (hD 25 (by simp));have hn6_24_25:=hA.ne 2 3 (by decide) rfl rfl rfl rfl (hD 24 (by simp)) (hD 25 (by simp));replace hE:=((((hE.fv hq11).fv hq23).blkI hq24).blkI hq25);clear hA hD hq11 h6_11 hq23 h6_23 hq24 h6_24 hq25 h6_25;try simp only[ivPut,Act.put,List.setIfInBounds_toArray,List.set_cons_zero,List.set_cons_succ,List.getElem_toArray,List.getElem_cons_succ,List.getElem_cons_zero]
 have hHeld:(fun V=>Blk 125 (gw) (wkE x t gA gD b0 b1 j) V) W6:=hE.e8.1.1.1.1.1.1.1.2;refine r1 26 (fun K hK=> ?_)
 have hgl11:w.heap.size<=G6_24:=by omega
 obtain⟨x11_0,x11_1,x11_2,x11_3⟩:=(hE.here.1.2).c4;obtain⟨f11_0,f11_1,f11_2,f11_3⟩:=hE.here.1.2.f4;replace hE:=(((((((((((((((((Env.again (bel4 hE.bel hgl11 (.bool sl) (.slice Al nl cl) (.bool tl) (.slice Bl ml dl))).blkI ((hE.e8.1.1.1.1.1.1.1.2).far4 (by omega) _ _ _ _)).fv ((hE.e8.1.1.1.1.1.1.2).sep4 hE.here.1.2 rfl _ _ _ _ rfl rfl rfl)).fv ((hE.h13).sep4 hE.here.1.2 rfl _ _ _ _ rfl rfl rfl)).blkI ((hE.h12).far4 (by omega) _ _ _ _)).fv ((hE.h11).sep4 hE.here.1.2 rfl _ _ _ _ rfl rfl rfl)).blkI ((hE.h10).far4 (by omega) _ _ _ _)).fv ((hE.h9).sep4 hE.here.1.2 rfl _ _ _ _ rfl rfl rfl)).fv ((hE.h8).sep4 hE.here.1.2 rfl _ _ _ _ rfl rfl rfl)).blkI ((hE.h7).far4 (by omega) _ _ _ _)).blkI ((hE.h6).far4 (by omega) _ _ _ _)).blkI ((hE.h5).far4 (by omega) _ _ _ _)).fv ((hE.h4).sep4 hE.here.1.2 rfl _ _ _ _ rfl rfl rfl)).fv ((hE.h3).sep4 hE.here.1.2 rfl _ _ _ _ rfl rfl rfl)).fv ((hE.h2).sep4 hE.here.1.2 rfl _ _ _ _ rfl rfl rfl)).blkI ((hE.here.1.2).s4 _ _ _ _)).blkI ((hE.here.2).far4 (by omega) _ _ _ _));go_simp;clear x11_0 x11_1 x11_2 x11_3 f11_0 f11_1 f11_2 f11_3 hgl11;generalize ((((W6.setCell ⟨G6_24,0,none⟩ (.bool sl)).setCell ⟨G6_24,1,none⟩ (.slice Al nl cl)).setCell ⟨G6_24,2,none⟩ (.bool tl)).setCell ⟨G6_24,3,none⟩ (.slice Bl ml dl))=W11 at hE⊢;refine hK.out _ _ (hE.e8.1.1.1.1.1.1.1.2) (fun hHeld=> ?_);clear hK K;try simp only[PL]
 refine r1 27 (fun K hK=> ?_)
 have hgl12:w.heap.size<=G6_25:=by omega
 obtain⟨x12_0,x12_1,x12_2,x12_3⟩:=(hE.here.2).c4;obtain⟨f12_0,f12_1,f12_2,f12_3⟩:=hE.here.2.f4;replace hE:=(((((((((((((((((Env.again (bel4 hE.bel hgl12 (.bool sd) (.slice Ad nd cd) (.bool td) (.slice Bd md dd))).blkI ((hE.e8.1.1.1.1.1.1.1.2).far4 (by omega) _ _ _ _)).fv ((hE.e8.1.1.1.1.1.1.2).sep4 hE.here.2 rfl _ _ _ _ rfl rfl rfl)).fv ((hE.h13).sep4 hE.here.2 rfl _ _ _ _ rfl rfl rfl)).blkI ((hE.h12).far4 (by omega) _ _ _ _)).fv ((hE.h11).sep4 hE.here.2 rfl _ _ _ _ rfl rfl rfl)).blkI ((hE.h10).far4 (by omega) _ _ _ _)).fv ((hE.h9).sep4 hE.here.2 rfl _ _ _ _ rfl rfl rfl)).fv ((hE.h8).sep4 hE.here.2 rfl _ _ _ _ rfl rfl rfl)).blkI ((hE.h7).far4 (by omega) _ _ _ _)).blkI ((hE.h6).far4 (by omega) _ _ _ _)).blkI ((hE.h5).far4 (by omega) _ _ _ _)).fv ((hE.h4).sep4 hE.here.2 rfl _ _ _ _ rfl rfl rfl)).fv ((hE.h3).sep4 hE.here.2 rfl _ _ _ _ rfl rfl rfl)).fv ((hE.h2).sep4 hE.here.2 rfl _ _ _ _ rfl rfl rfl)).blkI ((hE.here.1.2).far4 (by omega) _ _ _ _)).blkI ((hE.here.2).s4 _ _ _ _));go_simp;clear x12_0 x12_1 x12_2 x12_3 f12_0 f12_1 f12_2 f12_3 hgl12;generalize ((((W11.setCell ⟨G6_25,0,none⟩ (.bool sd)).setCell ⟨G6_25,1,none⟩ (.slice Ad nd cd)).setCell ⟨G6_25,2,none⟩ (.bool td)).setCell ⟨G6_25,3,none⟩ (.slice Bd md dd))=W12 at hE⊢;refine hK.out _ _ (hE.e8.1.1.1.1.1.1.1.2) (fun hHeld=> ?_);clear hK K;try simp only[PL]
 refine wpAnyH_done (by kernel_rfl) ?_ _
 go_upto_region 7 with(fail)
 clear hw6 hl6_0 hl6_3 hl6_5 hl6_8 hl6_9 hl6_10 hg6_24 hg6_25 hn6_24_25;replace hE:=hE.drew;refine wp_region_held_drew (S:=fun V=>Blk 125 (gw) (wkE x t gA gD b0 b1 j) V) (by kernel_rfl) (hE.e8.1.1.1.1.1.1.1.2) (fun hHeld=> ?_)
 generalize W12.drew=wd at*
 refine tk 0 ?_;refine tk 1 ?_;refine tk 2 ?_;refine tk 3 ?_
 refine tk 4 ?_ (hy:=by
  intro w hSw;have kc16:=(hSw).cell 16;have kc17:=(hSw).cell 17;have kc18:=(hSw).cell 18;have kc19:=(hSw).cell 19;clear hSw
  first|(go_simp;done)|(go_simp;with_reducible rfl))
 try simp only[PL]
 refine tk 5 ?_;refine tk 6 ?_;refine tk 7 ?_
 refine tk 8 ?_ (hy:=by
  intro w hSw;have kc27:=(hSw).cell 27;have kc28:=(hSw).cell 28;have kc29:=(hSw).cell 29;have kc30:=(hSw).cell 30;clear hSw
  first|(go_simp;done)|(go_simp;with_reducible rfl))
 try simp only[PL]
 refine tk 9 ?_
 obtain⟨B7,hB7⟩:∃B,B=wd.heap.size:=⟨_,rfl⟩
 have hw7:w.heap.size<=B7:=by rw[hB7];exact hE.bel.size
 have hl7_0:gw<B7:=by rw[hB7];exact(hE.e8.1.1.1.1.1.1.1.2).lt
 have hl7_3:w.heap.size<B7:=by rw[hB7];exact(hE.h12).lt
 have hl7_5:G1_11<B7:=by rw[hB7];exact(hE.h10).lt
 have hl7_8:G2_24<B7:=by rw[hB7];exact(hE.h7).lt
 have hl7_9:G2_25<B7:=by rw[hB7];exact(hE.h6).lt
 have hl7_10:g5<B7:=by rw[hB7];exact(hE.h5).lt
 have hl7_14:G6_24<B7:=by rw[hB7];exact(hE.here.1.2).lt
 have hl7_15:G6_25<B7:=by rw[hB7];exact(hE.here.2).lt
 refine iv_region (I:=IvInv w _ _ B7 [⟨10,106,RFq qq⟩,⟨11,9,ALq 29 qz4 B7⟩,⟨12,10,ALq 29 qz4 B7⟩,⟨13,11,ALq 29 qz4 B7⟩]) [10,11,12,13] (f1:=3) (by kernel_rfl) (by kernel_rfl) (by kernel_rfl) rfl (by kernel_rfl) (by kernel_rfl) (by rfl) (IvInv.start hE hB7 (by kernel_rfl)) ?steps7 ?end7
 case steps7=>
  have hst:∀g∈([⟨10,106,RFq qq⟩,⟨11,9,ALq 29 qz4 B7⟩,⟨12,10,ALq 29 qz4 B7⟩,⟨13,11,ALq 29 qz4 B7⟩]:List IvSlot),∀x,Stable (g.R x):=(fun g hg=>by simp only[List.mem_cons,List.not_mem_nil,or_false] at hg;rcases hg with rfl|rfl|rfl|rfl<;>first|exact RFq.stable _|exact ALq.stable _ _ _|exact TUq.stable _|exact ERq.stable _)
  clear hE hHeld hB7;refine IvSteps.cons (ds:=[9]) rfl (by kernel_rfl) (fun D a W0 hI hD K hK=> ?_) ?_
  ·
   have hE:=hI.here;obtain⟨xs,rfl,-,hF,-,-⟩:=id hI;obtain⟨x7_10,xs,rfl,h7_10,hF⟩:=hF.uncons;obtain⟨x7_11,xs,rfl,h7_11,hF⟩:=hF.uncons;obtain⟨x7_12,xs,rfl,h7_12,hF⟩:=hF.uncons;obtain⟨x7_13,xs,rfl,h7_13,hF⟩:=hF.uncons;obtain rfl:=hF.nil;clear hF;try simp only[ivPut,Act.put,List.setIfInBounds_toArray,List.set_cons_zero,List.set_cons_succ,List.getElem_toArray,List.getElem_cons_succ,List.getElem_cons_zero]
   go_simp;refine(calls_fr Hhqq.out (erate_v (Bh.rd_below Hhb.out hE.bel) Hhti.out Hhri.out hmvb (show Blk _ gw (wkC x (t:Int) gA gD b0 b1 j) _ from hE.e8.1.1.1.1.1.1.1.2))).mono ?_
   rintro e W1 ⟨sq,Aq,nq,cq,tq,Bq,mq,dq,rfl,hv,hb⟩
   have hE2:=hE.step hb;go_wp2_with fail
   refine hK.out _ _ (hE2.e8.1.1.1.1.1.1.1.2) ?_;exact hI.call (c:=cq) (d:=dq) 0 hst rfl (by kernel_rfl) (by kernel_rfl) (by kernel_rfl) hb hv
  refine IvSteps.cons (ds:=[]) rfl (by kernel_rfl) (fun D a W0 hI hD K hK=> ?_) ?_
  ·
   have hE:=hI.here;obtain⟨xs,rfl,-,hF,-,-⟩:=id hI;obtain⟨x7_10,xs,rfl,h7_10,hF⟩:=hF.uncons;obtain⟨x7_11,xs,rfl,h7_11,hF⟩:=hF.uncons;obtain⟨x7_12,xs,rfl,h7_12,hF⟩:=hF.uncons;obtain⟨x7_13,xs,rfl,h7_13,hF⟩:=hF.uncons;obtain rfl:=hF.nil;clear hF;try simp only[ivPut,Act.put,List.setIfInBounds_toArray,List.set_cons_zero,List.set_cons_succ,List.getElem_toArray,List.getElem_cons_succ,List.getElem_cons_zero]
   go_simp;have hE2:=hE.alloc (.cells qz4 29);refine hK.out _ _ (hE2.e8.1.1.1.1.1.1.1.2) ?_;exact hI.alloc 1 hst rfl (by kernel_rfl) (by kernel_rfl) (by kernel_rfl)
  refine IvSteps.cons (ds:=[]) rfl (by kernel_rfl) (fun D a W0 hI hD K hK=> ?_) ?_
  ·
   have hE:=hI.here;obtain⟨xs,rfl,-,hF,-,-⟩:=id hI;obtain⟨x7_10,xs,rfl,h7_10,hF⟩:=hF.uncons;obtain⟨x7_11,xs,rfl,h7_11,hF⟩:=hF.uncons;obtain⟨x7_12,xs,rfl,h7_12,hF⟩:=hF.uncons;obtain⟨x7_13,xs,rfl,h7_13,hF⟩:=hF.uncons;obtain rfl:=hF.nil;clear hF;try simp only[ivPut,Act.put,List.setIfInBounds_toArray,List.set_cons_zero,List.set_cons_succ,List.getElem_toArray,List.getElem_cons_succ,List.getElem_cons_zero]
   go_simp;have hE2:=hE.alloc (.cells qz4 29);refine hK.out _ _ (hE2.e8.1.1.1.1.1.1.1.2) ?_;exact hI.alloc 2 hst rfl (by kernel_rfl) (by kernel_rfl) (by kernel_rfl)
  refine IvSteps.cons (ds:=[]) rfl (by kernel_rfl) (fun D a W0 hI hD K hK=> ?_) ?_
  ·
   have hE:=hI.here;obtain⟨xs,rfl,-,hF,-,-⟩:=id hI;obtain⟨x7_10,xs,rfl,h7_10,hF⟩:=hF.uncons;obtain⟨x7_11,xs,rfl,h7_11,hF⟩:=hF.uncons;obtain⟨x7_12,xs,rfl,h7_12,hF⟩:=hF.uncons;obtain⟨x7_13,xs,rfl,h7_13,hF⟩:=hF.uncons;obtain rfl:=hF.nil;clear hF;try simp only[ivPut,Act.put,List.setIfInBounds_toArray,List.set_cons_zero,List.set_cons_succ,List.getElem_toArray,List.getElem_cons_succ,List.getElem_cons_zero]
   go_simp;have hE2:=hE.alloc (.cells qz4 29);refine hK.out _ _ (hE2.e8.1.1.1.1.1.1.1.2) ?_;exact hI.alloc 3 hst rfl (by kernel_rfl) (by kernel_rfl) (by kernel_rfl)
  exact IvSteps.nil
 clear hE hHeld hB7;intro D a W7 hI hD;have hE:=hI.here;obtain⟨xs,rfl,-,hF,hA,-⟩:=id hI;clear hI;obtain⟨x7_10,xs,rfl,h7_10,hF⟩:=hF.uncons;obtain⟨x7_11,xs,rfl,h7_11,hF⟩:=hF.uncons;obtain⟨x7_12,xs,rfl,h7_12,hF⟩:=hF.uncons;obtain⟨x7_13,xs,rfl,h7_13,hF⟩:=hF.uncons;obtain rfl:=hF.nil;clear hF;obtain⟨sq,Aq,nq,cq,tq,Bq,mq,dq,rfl,hq10⟩:=h7_10 (hD 10 (by simp));obtain⟨G7_11,rfl,hg7_11,hq11⟩:=h7_11 (hD 11 (by simp));obtain⟨G7_12,rfl,hg7_12,hq12⟩:=h7_12 (hD 12 (by simp));obtain⟨G7_13,rfl,hg7_13,hq13⟩:=h7_13 (hD 13 (by simp));have hn7_11_12:=hA.ne 1 2 (by decide) rfl rfl rfl rfl (hD 11 (by simp)) (hD 12 (by simp));have hn7_11_13:=hA.ne 1 3 (by decide) rfl rfl rfl rfl (hD 11 (by simp)) (hD 13 (by simp));have hn7_12_13:=hA.ne 2 3 (by decide) rfl rfl rfl rfl (hD 12 (by simp)) (hD 13 (by simp));replace hE:=((((hE.fv hq10).blkI hq11).blkI hq12).blkI hq13);clear hA hD hq10 h7_10 hq11 h7_11 hq12 h7_12 hq13 h7_13;try simp only[ivPut,Act.put,List.setIfInBounds_toArray,List.set_cons_zero,List.set_cons_succ,List.getElem_toArray,List.getElem_cons_succ,List.getElem_cons_zero]
 have hHeld:(fun V=>Blk 125 (gw) (wkE x t gA gD b0 b1 j) V) W7:=hE.e16.1.1.1.2;refine r1 14 (fun K hK=> ?_)
 have hgl13:w.heap.size<=G7_11:=by omega
 obtain⟨x13_0,x13_1,x13_2,x13_3⟩:=(hE.h2).c4;obtain⟨f13_0,f13_1,f13_2,f13_3⟩:=hE.h2.f4;replace hE:=(((((((((((((((((((((Env.again (bel4 hE.bel hgl13 (.bool b0.i.s) (.slice b0.i.A b0.i.n b0.i.c) (.bool b0.i.t) (.slice b0.i.B b0.i.m b0.i.d))).blkI ((hE.e16.1.1.1.2).far4 (by omega) _ _ _ _)).fv ((hE.e16.1.1.2).sep4 hE.h2 rfl _ _ _ _ rfl rfl rfl)).fv ((hE.e16.1.2).sep4 hE.h2 rfl _ _ _ _ rfl rfl rfl)).blkI ((hE.e16.2).far4 (by omega) _ _ _ _)).fv ((hE.e8.1.1.1.1.1.1.1.2).sep4 hE.h2 rfl _ _ _ _ rfl rfl rfl)).blkI ((hE.e8.1.1.1.1.1.1.2).far4 (by omega) _ _ _ _)).fv ((hE.h13).sep4 hE.h2 rfl _ _ _ _ rfl rfl rfl)).fv ((hE.h12).sep4 hE.h2 rfl _ _ _ _ rfl rfl rfl)).blkI ((hE.h11).far4 (by omega) _ _ _ _)).blkI ((hE.h10).far4 (by omega) _ _ _ _)).blkI ((hE.h9).far4 (by omega) _ _ _ _)).fv ((hE.h8).sep4 hE.h2 rfl _ _ _ _ rfl rfl rfl)).fv ((hE.h7).sep4 hE.h2 rfl _ _ _ _ rfl rfl rfl)).fv ((hE.h6).sep4 hE.h2 rfl _ _ _ _ rfl rfl rfl)).blkI ((hE.h5).far4 (by omega) _ _ _ _)).blkI ((hE.h4).far4 (by omega) _ _ _ _)).fv ((hE.h3).sep4 hE.h2 rfl _ _ _ _ rfl rfl rfl)).blkI ((hE.h2).s4 _ _ _ _)).blkI ((hE.here.1.2).far4 (by omega) _ _ _ _)).blkI ((hE.here.2).far4 (by omega) _ _ _ _));go_simp;clear x13_0 x13_1 x13_2 x13_3 f13_0 f13_1 f13_2 f13_3 hgl13;generalize ((((W7.setCell ⟨G7_11,0,none⟩ (.bool b0.i.s)).setCell ⟨G7_11,1,none⟩ (.slice b0.i.A b0.i.n b0.i.c)).setCell ⟨G7_11,2,none⟩ (.bool b0.i.t)).setCell ⟨G7_11,3,none⟩ (.slice b0.i.B b0.i.m b0.i.d))=W13 at hE⊢;refine hK.out _ _ (hE.e16.1.1.1.2) (fun hHeld=> ?_);clear hK K;try simp only[PL]
 refine r1 15 (fun K hK=> ?_)
 have hgl14:w.heap.size<=G7_12:=by omega
 obtain⟨x14_0,x14_1,x14_2,x14_3⟩:=(hE.here.1.2).c4;obtain⟨f14_0,f14_1,f14_2,f14_3⟩:=hE.here.1.2.f4;replace hE:=(((((((((((((((((((((Env.again (bel4 hE.bel hgl14 (.bool j.s) (.slice j.A j.n j.c) (.bool j.t) (.slice j.B j.m j.d))).blkI ((hE.e16.1.1.1.2).far4 (by omega) _ _ _ _)).fv ((hE.e16.1.1.2).sep4 hE.here.1.2 rfl _ _ _ _ rfl rfl rfl)).fv ((hE.e16.1.2).sep4 hE.here.1.2 rfl _ _ _ _ rfl rfl rfl)).blkI ((hE.e16.2).far4 (by omega) _ _ _ _)).fv ((hE.e8.1.1.1.1.1.1.1.2).sep4 hE.here.1.2 rfl _ _ _ _ rfl rfl rfl)).blkI ((hE.e8.1.1.1.1.1.1.2).far4 (by omega) _ _ _ _)).fv ((hE.h13).sep4 hE.here.1.2 rfl _ _ _ _ rfl rfl rfl)).fv ((hE.h12).sep4 hE.here.1.2 rfl _ _ _ _ rfl rfl rfl)).blkI ((hE.h11).far4 (by omega) _ _ _ _)).blkI ((hE.h10).far4 (by omega) _ _ _ _)).blkI ((hE.h9).far4 (by omega) _ _ _ _)).fv ((hE.h8).sep4 hE.here.1.2 rfl _ _ _ _ rfl rfl rfl)).fv ((hE.h7).sep4 hE.here.1.2 rfl _ _ _ _ rfl rfl rfl)).fv ((hE.h6).sep4 hE.here.1.2 rfl _ _ _ _ rfl rfl rfl)).blkI ((hE.h5).far4 (by omega) _ _ _ _)).blkI ((hE.h4).far4 (by omega) _ _ _ _)).fv ((hE.h3).sep4 hE.here.1.2 rfl _ _ _ _ rfl rfl rfl)).blkI ((hE.h2).far4 (by omega) _ _ _ _)).blkI ((hE.here.1.2).s4 _ _ _ _)).blkI ((hE.here.2).far4 (by omega) _ _ _ _));go_simp;clear x14_0 x14_1 x14_2 x14_3 f14_0 f14_1 f14_2 f14_3 hgl14;generalize ((((W13.setCell ⟨G7_12,0,none⟩ (.bool j.s)).setCell ⟨G7_12,1,none⟩ (.slice j.A j.n j.c)).setCell ⟨G7_12,2,none⟩ (.bool j.t)).setCell ⟨G7_12,3,none⟩ (.slice j.B j.m j.d))=W14 at hE⊢;refine hK.out _ _ (hE.e16.1.1.1.2) (fun hHeld=> ?_);clear hK K;try simp only[PL]
 refine r1 16 (fun K hK=> ?_)
 have hgl15:w.heap.size<=G7_13:=by omega
 obtain⟨x15_0,x15_1,x15_2,x15_3⟩:=(hE.here.2).c4;obtain⟨f15_0,f15_1,f15_2,f15_3⟩:=hE.here.2.f4;replace hE:=(((((((((((((((((((((Env.again (bel4 hE.bel hgl15 (.bool sq) (.slice Aq nq cq) (.bool tq) (.slice Bq mq dq))).blkI ((hE.e16.1.1.1.2).far4 (by omega) _ _ _ _)).fv ((hE.e16.1.1.2).sep4 hE.here.2 rfl _ _ _ _ rfl rfl rfl)).fv ((hE.e16.1.2).sep4 hE.here.2 rfl _ _ _ _ rfl rfl rfl)).blkI ((hE.e16.2).far4 (by omega) _ _ _ _)).fv ((hE.e8.1.1.1.1.1.1.1.2).sep4 hE.here.2 rfl _ _ _ _ rfl rfl rfl)).blkI ((hE.e8.1.1.1.1.1.1.2).far4 (by omega) _ _ _ _)).fv ((hE.h13).sep4 hE.here.2 rfl _ _ _ _ rfl rfl rfl)).fv ((hE.h12).sep4 hE.here.2 rfl _ _ _ _ rfl rfl rfl)).blkI ((hE.h11).far4 (by omega) _ _ _ _)).blkI ((hE.h10).far4 (by omega) _ _ _ _)).blkI ((hE.h9).far4 (by omega) _ _ _ _)).fv ((hE.h8).sep4 hE.here.2 rfl _ _ _ _ rfl rfl rfl)).fv ((hE.h7).sep4 hE.here.2 rfl _ _ _ _ rfl rfl rfl)).fv ((hE.h6).sep4 hE.here.2 rfl _ _ _ _ rfl rfl rfl)).blkI ((hE.h5).far4 (by omega) _ _ _ _)).blkI ((hE.h4).far4 (by omega) _ _ _ _)).fv ((hE.h3).sep4 hE.here.2 rfl _ _ _ _ rfl rfl rfl)).blkI ((hE.h2).far4 (by omega) _ _ _ _)).blkI ((hE.here.1.2).far4 (by omega) _ _ _ _)).blkI ((hE.here.2).s4 _ _ _ _));go_simp;clear x15_0 x15_1 x15_2 x15_3 f15_0 f15_1 f15_2 f15_3 hgl15;generalize ((((W14.setCell ⟨G7_13,0,none⟩ (.bool sq)).setCell ⟨G7_13,1,none⟩ (.slice Aq nq cq)).setCell ⟨G7_13,2,none⟩ (.bool tq)).setCell ⟨G7_13,3,none⟩ (.slice Bq mq dq))=W15 at hE⊢;refine hK.out _ _ (hE.e16.1.1.1.2) (fun hHeld=> ?_);clear hK K;try simp only[PL]
 refine wpAnyH_done (by kernel_rfl) ?_ _
 go_upto_region 8 with(fail)
 clear hw7 hl7_0 hl7_3 hl7_5 hl7_8 hl7_9 hl7_10 hl7_14 hl7_15 hg7_11 hg7_12 hg7_13 hn7_11_12 hn7_11_13 hn7_12_13
 go_cut [12,13,14] from 72 to 131 (fun p0 p1 p2 wx=>∃G8_24 G8_25 G8_26 sn An nn cn tn Bn mn dn sm Am nm cm tm Bm mm dm sr Ar nr cr tr Br mr dr,p0= .pointer (some ⟨G8_24,0,none⟩)/\p1= .pointer (some ⟨G8_25,0,none⟩)/\p2= .pointer (some ⟨G8_26,0,none⟩)/\Env w (fun V=>((((((((((((((((((((((((((True/\Blk 125 (gw) (wkE x t gA gD b0 b1 j) V)/\FV V qi b0.i.s b0.i.A b0.i.n b0.i.t b0.i.B b0.i.m)/\FV V qj j.s j.A j.n j.t j.B j.m)/\Blk 126 (w.heap.size) #[.bool false,.slice none 0 0,.bool false,.slice none 0 0,.bool false,.slice none 0 0,.bool false,.slice none 0 0,.bool false,.slice none 0 0,.bool false,.slice none 0 0,.bool false,.slice none 0 0,.bool false,.slice none 0 0,.bool false,.slice none 0 0,.bool false,.slice none 0 0,.bool false,.slice none 0 0,.bool false,.slice none 0 0,.bool false,.slice none 0 0,.bool false,.slice none 0 0,.bool false,.slice none 0 0,.bool false,.slice none 0 0,.bool false,.slice none 0 0,.bool false,.slice none 0 0,.bool false,.slice none 0 0,.bool false,.slice none 0 0] V)/\FV V qv sv Av nv tv Bv mv)/\Blk 29 (G1_11) (qf4 sv Av nv cv tv Bv mv dv) V)/\FV V qa sa Aa na ta Ba ma)/\FV V qu su Au nu tu Bu mu)/\Blk 29 (G2_24) (qf4 sa Aa na ca ta Ba ma da) V)/\Blk 29 (G2_25) (qf4 su Au nu cu tu Bu mu du) V)/\Blk 29 (g5) (qf4 sp Ap np cp tp Bp mp dp) V)/\FV V qp sp Ap np tp Bp mp)/\FV V ql sl Al nl tl Bl ml)/\FV V qd sd Ad nd td Bd md)/\Blk 29 (G6_24) (qf4 sl Al nl cl tl Bl ml dl) V)/\Blk 29 (G6_25) (qf4 sd Ad nd cd td Bd md dd) V)/\FV V qq sq Aq nq tq Bq mq)/\Blk 29 (G7_11) (qf4 b0.i.s b0.i.A b0.i.n b0.i.c b0.i.t b0.i.B b0.i.m b0.i.d) V)/\Blk 29 (G7_12) (qf4 j.s j.A j.n j.c j.t j.B j.m j.d) V)/\Blk 29 (G7_13) (qf4 sq Aq nq cq tq Bq mq dq) V)/\FV V qn sn An nn tn Bn mn)/\FV V qm sm Am nm tm Bm mm)/\FV V (qn-qm) sr Ar nr tr Br mr)/\Blk 29 (G8_24) (qf4 sn An nn cn tn Bn mn dn) V)/\Blk 29 (G8_25) (qf4 sm Am nm cm tm Bm mm dm) V)/\Blk 29 (G8_26) (qf4 sr Ar nr cr tr Br mr dr) V)) wx)
 case first=>
  replace hE:=hE.drew;refine wp_region_held_drew (S:=fun V=>Blk 125 (gw) (wkE x t gA gD b0 b1 j) V) (by kernel_rfl) (hE.e16.1.1.1.2) (fun hHeld=> ?_)
  generalize W15.drew=wd at*
  refine tk 0 ?_;refine tk 1 ?_;refine tk 2 ?_;refine tk 3 ?_
  refine tk 4 ?_ (hy:=by
   intro w hSw;have kc11:=(hSw).cell 11;clear hSw
   first|(go_simp;done)|(go_simp;with_reducible rfl))
  try simp only[PL]
  refine tk 6 ?_;refine tk 7 ?_;refine tk 8 ?_;refine tk 9 ?_
  refine tk 10 ?_ (hy:=by
   intro w hSw;have kc12:=(hSw).cell 12;clear hSw
   first|(go_simp;done)|(go_simp;with_reducible rfl))
  try simp only[PL]
  refine tk 12 ?_;refine tk 13 ?_;refine tk 14 ?_;refine tk 15 ?_
  refine tk 16 ?_ (hy:=by
   intro w hSw;have kc11:=(hSw).cell 11;clear hSw
   first|(go_simp;done)|(go_simp;with_reducible rfl))
  try simp only[PL]
  refine tk 17 ?_;refine tk 18 ?_;refine tk 19 ?_;refine tk 20 ?_
  refine tk 21 ?_ (hy:=by
   intro w hSw;have kc12:=(hSw).cell 12;clear hSw
   first|(go_simp;done)|(go_simp;with_reducible rfl))
  try simp only[PL]
  refine tk 22 ?_
  obtain⟨B8,hB8⟩:∃B,B=wd.heap.size:=⟨_,rfl⟩
  have hw8:w.heap.size<=B8:=by rw[hB8];exact hE.bel.size
  have hl8_0:gw<B8:=by rw[hB8];exact(hE.e16.1.1.1.2).lt
  have hl8_3:w.heap.size<B8:=by rw[hB8];exact(hE.e16.2).lt
  have hl8_5:G1_11<B8:=by rw[hB8];exact(hE.e8.1.1.1.1.1.1.2).lt
  have hl8_8:G2_24<B8:=by rw[hB8];exact(hE.h11).lt
  have hl8_9:G2_25<B8:=by rw[hB8];exact(hE.h10).lt
  have hl8_10:g5<B8:=by rw[hB8];exact(hE.h9).lt
  have hl8_14:G6_24<B8:=by rw[hB8];exact(hE.h5).lt
  have hl8_15:G6_25<B8:=by rw[hB8];exact(hE.h4).lt
  have hl8_17:G7_11<B8:=by rw[hB8];exact(hE.h2).lt
  have hl8_18:G7_12<B8:=by rw[hB8];exact(hE.here.1.2).lt
  have hl8_19:G7_13<B8:=by rw[hB8];exact(hE.here.2).lt
  refine iv_region (I:=IvInv w _ _ B8 [⟨5,112,RFq qn⟩,⟨11,118,RFq qm⟩,⟨23,130,RFq (qn-qm)⟩,⟨24,12,ALq 29 qz4 B8⟩,⟨25,13,ALq 29 qz4 B8⟩,⟨26,14,ALq 29 qz4 B8⟩]) [5,11,23,24,25,26] (f1:=3) (by kernel_rfl) (by kernel_rfl) (by kernel_rfl) rfl (by kernel_rfl) (by kernel_rfl) (by rfl) (IvInv.start hE hB8 (by kernel_rfl)) ?steps8 ?end8
  case steps8=>
   have hst:∀g∈([⟨5,112,RFq qn⟩,⟨11,118,RFq qm⟩,⟨23,130,RFq (qn-qm)⟩,⟨24,12,ALq 29 qz4 B8⟩,⟨25,13,ALq 29 qz4 B8⟩,⟨26,14,ALq 29 qz4 B8⟩]:List IvSlot),∀x,Stable (g.R x):=(fun g hg=>by simp only[List.mem_cons,List.not_mem_nil,or_false] at hg;rcases hg with rfl|rfl|rfl|rfl|rfl|rfl<;>first|exact RFq.stable _|exact ALq.stable _ _ _|exact TUq.stable _|exact ERq.stable _)
   clear hE hHeld hB8;refine IvSteps.cons (ds:=[4]) rfl (by kernel_rfl) (fun D a W0 hI hD K hK=> ?_) ?_
   ·
    have hE:=hI.here;obtain⟨xs,rfl,-,hF,-,-⟩:=id hI;obtain⟨x8_5,xs,rfl,h8_5,hF⟩:=hF.uncons;obtain⟨x8_11,xs,rfl,h8_11,hF⟩:=hF.uncons;obtain⟨x8_23,xs,rfl,h8_23,hF⟩:=hF.uncons;obtain⟨x8_24,xs,rfl,h8_24,hF⟩:=hF.uncons;obtain⟨x8_25,xs,rfl,h8_25,hF⟩:=hF.uncons;obtain⟨x8_26,xs,rfl,h8_26,hF⟩:=hF.uncons;obtain rfl:=hF.nil;clear hF;try simp only[ivPut,Act.put,List.setIfInBounds_toArray,List.set_cons_zero,List.set_cons_succ,List.getElem_toArray,List.getElem_cons_succ,List.getElem_cons_zero]
    go_simp;refine(calls_fr Hhqn.out (ffromInt_v gA _ (by omega) (by omega))).mono ?_
    rintro e W1 ⟨sn,An,nn,cn,tn,Bn,mn,dn,rfl,hv,hb⟩
    have hE2:=hE.step hb;go_wp2_with fail
    refine hK.out _ _ (hE2.e16.1.1.1.2) ?_;exact hI.call (c:=cn) (d:=dn) 0 hst rfl (by kernel_rfl) (by kernel_rfl) (by kernel_rfl) hb hv
   refine IvSteps.cons (ds:=[10,5]) rfl (by kernel_rfl) (fun D a W0 hI hD K hK=> ?_) ?_
   ·
    have hE:=hI.here;obtain⟨xs,rfl,-,hF,-,-⟩:=id hI;obtain⟨x8_5,xs,rfl,h8_5,hF⟩:=hF.uncons;obtain⟨x8_11,xs,rfl,h8_11,hF⟩:=hF.uncons;obtain⟨x8_23,xs,rfl,h8_23,hF⟩:=hF.uncons;obtain⟨x8_24,xs,rfl,h8_24,hF⟩:=hF.uncons;obtain⟨x8_25,xs,rfl,h8_25,hF⟩:=hF.uncons;obtain⟨x8_26,xs,rfl,h8_26,hF⟩:=hF.uncons;obtain rfl:=hF.nil;clear hF;try simp only[ivPut,Act.put,List.setIfInBounds_toArray,List.set_cons_zero,List.set_cons_succ,List.getElem_toArray,List.getElem_cons_succ,List.getElem_cons_zero]
    go_simp;refine(calls_fr Hhqm.out (ffromInt_v gD _ (by omega) (by omega))).mono ?_
    rintro e W1 ⟨sm,Am,nm,cm,tm,Bm,mm,dm,rfl,hv,hb⟩
    have hE2:=hE.step hb;go_wp2_with fail
    refine hK.out _ _ (hE2.e16.1.1.1.2) ?_;exact hI.call (c:=cm) (d:=dm) 1 hst rfl (by kernel_rfl) (by kernel_rfl) (by kernel_rfl) hb hv
   refine IvSteps.cons (ds:=[22,11]) rfl (by kernel_rfl) (fun D a W0 hI hD K hK=> ?_) ?_
   ·
    have hE:=hI.here;obtain⟨xs,rfl,-,hF,-,-⟩:=id hI;obtain⟨x8_5,xs,rfl,h8_5,hF⟩:=hF.uncons;obtain⟨x8_11,xs,rfl,h8_11,hF⟩:=hF.uncons;obtain⟨x8_23,xs,rfl,h8_23,hF⟩:=hF.uncons;obtain⟨x8_24,xs,rfl,h8_24,hF⟩:=hF.uncons;obtain⟨x8_25,xs,rfl,h8_25,hF⟩:=hF.uncons;obtain⟨x8_26,xs,rfl,h8_26,hF⟩:=hF.uncons;obtain rfl:=hF.nil;clear hF;try simp only[ivPut,Act.put,List.setIfInBounds_toArray,List.set_cons_zero,List.set_cons_succ,List.getElem_toArray,List.getElem_cons_succ,List.getElem_cons_zero]
    go_simp;refine(calls_fr Hhqs.out (ffromInt_v (gA-gD) _ (by omega) (by omega))).mono ?_
    rintro e W1 ⟨sr,Ar,nr,cr,tr,Br,mr,dr,rfl,hv,hb⟩
    have hE2:=hE.step hb;go_wp2_with fail
    refine hK.out _ _ (hE2.e16.1.1.1.2) ?_;exact hI.call (c:=cr) (d:=dr) 2 hst rfl (by kernel_rfl) (by kernel_rfl) (by kernel_rfl) hb hv
   refine IvSteps.cons (ds:=[]) rfl (by kernel_rfl) (fun D a W0 hI hD K hK=> ?_) ?_
   ·
    have hE:=hI.here;obtain⟨xs,rfl,-,hF,-,-⟩:=id hI;obtain⟨x8_5,xs,rfl,h8_5,hF⟩:=hF.uncons;obtain⟨x8_11,xs,rfl,h8_11,hF⟩:=hF.uncons;obtain⟨x8_23,xs,rfl,h8_23,hF⟩:=hF.uncons;obtain⟨x8_24,xs,rfl,h8_24,hF⟩:=hF.uncons;obtain⟨x8_25,xs,rfl,h8_25,hF⟩:=hF.uncons;obtain⟨x8_26,xs,rfl,h8_26,hF⟩:=hF.uncons;obtain rfl:=hF.nil;clear hF;try simp only[ivPut,Act.put,List.setIfInBounds_toArray,List.set_cons_zero,List.set_cons_succ,List.getElem_toArray,List.getElem_cons_succ,List.getElem_cons_zero]
    go_simp;have hE2:=hE.alloc (.cells qz4 29);refine hK.out _ _ (hE2.e16.1.1.1.2) ?_;exact hI.alloc 3 hst rfl (by kernel_rfl) (by kernel_rfl) (by kernel_rfl)
   refine IvSteps.cons (ds:=[]) rfl (by kernel_rfl) (fun D a W0 hI hD K hK=> ?_) ?_
   ·
    have hE:=hI.here;obtain⟨xs,rfl,-,hF,-,-⟩:=id hI;obtain⟨x8_5,xs,rfl,h8_5,hF⟩:=hF.uncons;obtain⟨x8_11,xs,rfl,h8_11,hF⟩:=hF.uncons;obtain⟨x8_23,xs,rfl,h8_23,hF⟩:=hF.uncons;obtain⟨x8_24,xs,rfl,h8_24,hF⟩:=hF.uncons;obtain⟨x8_25,xs,rfl,h8_25,hF⟩:=hF.uncons;obtain⟨x8_26,xs,rfl,h8_26,hF⟩:=hF.uncons;obtain rfl:=hF.nil;clear hF;try simp only[ivPut,Act.put,List.setIfInBounds_toArray,List.set_cons_zero,List.set_cons_succ,List.getElem_toArray,List.getElem_cons_succ,List.getElem_cons_zero]
    go_simp;have hE2:=hE.alloc (.cells qz4 29);refine hK.out _ _ (hE2.e16.1.1.1.2) ?_;exact hI.alloc 4 hst rfl (by kernel_rfl) (by kernel_rfl) (by kernel_rfl)
   refine IvSteps.cons (ds:=[]) rfl (by kernel_rfl) (fun D a W0 hI hD K hK=> ?_) ?_
   ·
    have hE:=hI.here;obtain⟨xs,rfl,-,hF,-,-⟩:=id hI;obtain⟨x8_5,xs,rfl,h8_5,hF⟩:=hF.uncons;obtain⟨x8_11,xs,rfl,h8_11,hF⟩:=hF.uncons;obtain⟨x8_23,xs,rfl,h8_23,hF⟩:=hF.uncons;obtain⟨x8_24,xs,rfl,h8_24,hF⟩:=hF.uncons;obtain⟨x8_25,xs,rfl,h8_25,hF⟩:=hF.uncons;obtain⟨x8_26,xs,rfl,h8_26,hF⟩:=hF.uncons;obtain rfl:=hF.nil;clear hF;try simp only[ivPut,Act.put,List.setIfInBounds_toArray,List.set_cons_zero,List.set_cons_succ,List.getElem_toArray,List.getElem_cons_succ,List.getElem_cons_zero]
    go_simp;have hE2:=hE.alloc (.cells qz4 29);refine hK.out _ _ (hE2.e16.1.1.1.2) ?_;exact hI.alloc 5 hst rfl (by kernel_rfl) (by kernel_rfl) (by kernel_rfl)
   exact IvSteps.nil
  clear hE hHeld hB8;intro D a W8 hI hD;have hE:=hI.here;obtain⟨xs,rfl,-,hF,hA,-⟩:=id hI;clear hI;obtain⟨x8_5,xs,rfl,h8_5,hF⟩:=hF.uncons;obtain⟨x8_11,xs,rfl,h8_11,hF⟩:=hF.uncons;obtain⟨x8_23,xs,rfl,h8_23,hF⟩:=hF.uncons;obtain⟨x8_24,xs,rfl,h8_24,hF⟩:=hF.uncons;obtain⟨x8_25,xs,rfl,h8_25,hF⟩:=hF.uncons;obtain⟨x8_26,xs,rfl,h8_26,hF⟩:=hF.uncons;obtain rfl:=hF.nil;clear hF;obtain⟨sn,An,nn,cn,tn,Bn,mn,dn,rfl,hq5⟩:=h8_5 (hD 5 (by simp));obtain⟨sm,Am,nm,cm,tm,Bm,mm,dm,rfl,hq11⟩:=h8_11 (hD 11 (by simp));obtain⟨sr,Ar,nr,cr,tr,Br,mr,dr,rfl,hq23⟩:=h8_23 (hD 23 (by simp));obtain⟨G8_24,rfl,hg8_24,hq24⟩:=h8_24 (hD 24 (by simp));obtain⟨G8_25,rfl,hg8_25,hq25⟩:=h8_25 (hD 25 (by simp));obtain⟨G8_26,rfl,hg8_26,hq26⟩:=h8_26 (hD 26 (by simp));have hn8_24_25:=hA.ne 3 4 (by decide) rfl rfl rfl rfl (hD 24 (by simp)) (hD 25 (by simp));have hn8_24_26:=hA.ne 3 5 (by decide) rfl rfl rfl rfl (hD 24 (by simp)) (hD 26 (by simp));have hn8_25_26:=hA.ne 4 5 (by decide) rfl rfl rfl rfl (hD 25 (by simp)) (hD 26 (by simp));replace hE:=((((((hE.fv hq5).fv hq11).fv hq23).blkI hq24).blkI hq25).blkI hq26);clear hA hD hq5 h8_5 hq11 h8_11 hq23 h8_23 hq24 h8_24 hq25 h8_25 hq26 h8_26;try simp only[ivPut,Act.put,List.setIfInBounds_toArray,List.set_cons_zero,List.set_cons_succ,List.getElem_toArray,List.getElem_cons_succ,List.getElem_cons_zero]
  have hHeld:(fun V=>Blk 125 (gw) (wkE x t gA gD b0 b1 j) V) W8:=hE.e24.1.2;refine r1 27 (fun K hK=> ?_)
  have hgl16:w.heap.size<=G8_24:=by omega
  obtain⟨x16_0,x16_1,x16_2,x16_3⟩:=(hE.h2).c4;obtain⟨f16_0,f16_1,f16_2,f16_3⟩:=hE.h2.f4;replace hE:=(((((((((((((((((((((((((((Env.again (bel4 hE.bel hgl16 (.bool sn) (.slice An nn cn) (.bool tn) (.slice Bn mn dn))).blkI ((hE.e24.1.2).far4 (by omega) _ _ _ _)).fv ((hE.e24.2).sep4 hE.h2 rfl _ _ _ _ rfl rfl rfl)).fv ((hE.e16.1.1.1.1.1.1.1.2).sep4 hE.h2 rfl _ _ _ _ rfl rfl rfl)).blkI ((hE.e16.1.1.1.1.1.1.2).far4 (by omega) _ _ _ _)).fv ((hE.e16.1.1.1.1.1.2).sep4 hE.h2 rfl _ _ _ _ rfl rfl rfl)).blkI ((hE.e16.1.1.1.1.2).far4 (by omega) _ _ _ _)).fv ((hE.e16.1.1.1.2).sep4 hE.h2 rfl _ _ _ _ rfl rfl rfl)).fv ((hE.e16.1.1.2).sep4 hE.h2 rfl _ _ _ _ rfl rfl rfl)).blkI ((hE.e16.1.2).far4 (by omega) _ _ _ _)).blkI ((hE.e16.2).far4 (by omega) _ _ _ _)).blkI ((hE.e8.1.1.1.1.1.1.1.2).far4 (by omega) _ _ _ _)).fv ((hE.e8.1.1.1.1.1.1.2).sep4 hE.h2 rfl _ _ _ _ rfl rfl rfl)).fv ((hE.h13).sep4 hE.h2 rfl _ _ _ _ rfl rfl rfl)).fv ((hE.h12).sep4 hE.h2 rfl _ _ _ _ rfl rfl rfl)).blkI ((hE.h11).far4 (by omega) _ _ _ _)).blkI ((hE.h10).far4 (by omega) _ _ _ _)).fv ((hE.h9).sep4 hE.h2 rfl _ _ _ _ rfl rfl rfl)).blkI ((hE.h8).far4 (by omega) _ _ _ _)).blkI ((hE.h7).far4 (by omega) _ _ _ _)).blkI ((hE.h6).far4 (by omega) _ _ _ _)).fv ((hE.h5).sep4 hE.h2 rfl _ _ _ _ rfl rfl rfl)).fv ((hE.h4).sep4 hE.h2 rfl _ _ _ _ rfl rfl rfl)).fv ((hE.h3).sep4 hE.h2 rfl _ _ _ _ rfl rfl rfl)).blkI ((hE.h2).s4 _ _ _ _)).blkI ((hE.here.1.2).far4 (by omega) _ _ _ _)).blkI ((hE.here.2).far4 (by omega) _ _ _ _));go_simp;clear x16_0 x16_1 x16_2 x16_3 f16_0 f16_1 f16_2 f16_3 hgl16;generalize ((((W8.setCell ⟨G8_24,0,none⟩ (.bool sn)).setCell ⟨G8_24,1,none⟩ (.slice An nn cn)).setCell ⟨G8_24,2,none⟩ (.bool tn)).setCell ⟨G8_24,3,none⟩ (.slice Bn mn dn))=W16 at hE⊢;refine hK.out _ _ (hE.e24.1.2) (fun hHeld=> ?_);clear hK K;try simp only[PL]
  refine r1 28 (fun K hK=> ?_)
  have hgl17:w.heap.size<=G8_25:=by omega
  obtain⟨x17_0,x17_1,x17_2,x17_3⟩:=(hE.here.1.2).c4;obtain⟨f17_0,f17_1,f17_2,f17_3⟩:=hE.here.1.2.f4;replace hE:=(((((((((((((((((((((((((((Env.again (bel4 hE.bel hgl17 (.bool sm) (.slice Am nm cm) (.bool tm) (.slice Bm mm dm))).blkI ((hE.e24.1.2).far4 (by omega) _ _ _ _)).fv ((hE.e24.2).sep4 hE.here.1.2 rfl _ _ _ _ rfl rfl rfl)).fv ((hE.e16.1.1.1.1.1.1.1.2).sep4 hE.here.1.2 rfl _ _ _ _ rfl rfl rfl)).blkI ((hE.e16.1.1.1.1.1.1.2).far4 (by omega) _ _ _ _)).fv ((hE.e16.1.1.1.1.1.2).sep4 hE.here.1.2 rfl _ _ _ _ rfl rfl rfl)).blkI ((hE.e16.1.1.1.1.2).far4 (by omega) _ _ _ _)).fv ((hE.e16.1.1.1.2).sep4 hE.here.1.2 rfl _ _ _ _ rfl rfl rfl)).fv ((hE.e16.1.1.2).sep4 hE.here.1.2 rfl _ _ _ _ rfl rfl rfl)).blkI ((hE.e16.1.2).far4 (by omega) _ _ _ _)).blkI ((hE.e16.2).far4 (by omega) _ _ _ _)).blkI ((hE.e8.1.1.1.1.1.1.1.2).far4 (by omega) _ _ _ _)).fv ((hE.e8.1.1.1.1.1.1.2).sep4 hE.here.1.2 rfl _ _ _ _ rfl rfl rfl)).fv ((hE.h13).sep4 hE.here.1.2 rfl _ _ _ _ rfl rfl rfl)).fv ((hE.h12).sep4 hE.here.1.2 rfl _ _ _ _ rfl rfl rfl)).blkI ((hE.h11).far4 (by omega) _ _ _ _)).blkI ((hE.h10).far4 (by omega) _ _ _ _)).fv ((hE.h9).sep4 hE.here.1.2 rfl _ _ _ _ rfl rfl rfl)).blkI ((hE.h8).far4 (by omega) _ _ _ _)).blkI ((hE.h7).far4 (by omega) _ _ _ _)).blkI ((hE.h6).far4 (by omega) _ _ _ _)).fv ((hE.h5).sep4 hE.here.1.2 rfl _ _ _ _ rfl rfl rfl)).fv ((hE.h4).sep4 hE.here.1.2 rfl _ _ _ _ rfl rfl rfl)).fv ((hE.h3).sep4 hE.here.1.2 rfl _ _ _ _ rfl rfl rfl)).blkI ((hE.h2).far4 (by omega) _ _ _ _)).blkI ((hE.here.1.2).s4 _ _ _ _)).blkI ((hE.here.2).far4 (by omega) _ _ _ _));go_simp;clear x17_0 x17_1 x17_2 x17_3 f17_0 f17_1 f17_2 f17_3 hgl17;generalize ((((W16.setCell ⟨G8_25,0,none⟩ (.bool sm)).setCell ⟨G8_25,1,none⟩ (.slice Am nm cm)).setCell ⟨G8_25,2,none⟩ (.bool tm)).setCell ⟨G8_25,3,none⟩ (.slice Bm mm dm))=W17 at hE⊢;refine hK.out _ _ (hE.e24.1.2) (fun hHeld=> ?_);clear hK K;try simp only[PL]
  refine r1 29 (fun K hK=> ?_)
  have hgl18:w.heap.size<=G8_26:=by omega
  obtain⟨x18_0,x18_1,x18_2,x18_3⟩:=(hE.here.2).c4;obtain⟨f18_0,f18_1,f18_2,f18_3⟩:=hE.here.2.f4;replace hE:=(((((((((((((((((((((((((((Env.again (bel4 hE.bel hgl18 (.bool sr) (.slice Ar nr cr) (.bool tr) (.slice Br mr dr))).blkI ((hE.e24.1.2).far4 (by omega) _ _ _ _)).fv ((hE.e24.2).sep4 hE.here.2 rfl _ _ _ _ rfl rfl rfl)).fv ((hE.e16.1.1.1.1.1.1.1.2).sep4 hE.here.2 rfl _ _ _ _ rfl rfl rfl)).blkI ((hE.e16.1.1.1.1.1.1.2).far4 (by omega) _ _ _ _)).fv ((hE.e16.1.1.1.1.1.2).sep4 hE.here.2 rfl _ _ _ _ rfl rfl rfl)).blkI ((hE.e16.1.1.1.1.2).far4 (by omega) _ _ _ _)).fv ((hE.e16.1.1.1.2).sep4 hE.here.2 rfl _ _ _ _ rfl rfl rfl)).fv ((hE.e16.1.1.2).sep4 hE.here.2 rfl _ _ _ _ rfl rfl rfl)).blkI ((hE.e16.1.2).far4 (by omega) _ _ _ _)).blkI ((hE.e16.2).far4 (by omega) _ _ _ _)).blkI ((hE.e8.1.1.1.1.1.1.1.2).far4 (by omega) _ _ _ _)).fv ((hE.e8.1.1.1.1.1.1.2).sep4 hE.here.2 rfl _ _ _ _ rfl rfl rfl)).fv ((hE.h13).sep4 hE.here.2 rfl _ _ _ _ rfl rfl rfl)).fv ((hE.h12).sep4 hE.here.2 rfl _ _ _ _ rfl rfl rfl)).blkI ((hE.h11).far4 (by omega) _ _ _ _)).blkI ((hE.h10).far4 (by omega) _ _ _ _)).fv ((hE.h9).sep4 hE.here.2 rfl _ _ _ _ rfl rfl rfl)).blkI ((hE.h8).far4 (by omega) _ _ _ _)).blkI ((hE.h7).far4 (by omega) _ _ _ _)).blkI ((hE.h6).far4 (by omega) _ _ _ _)).fv ((hE.h5).sep4 hE.here.2 rfl _ _ _ _ rfl rfl rfl)).fv ((hE.h4).sep4 hE.here.2 rfl _ _ _ _ rfl rfl rfl)).fv ((hE.h3).sep4 hE.here.2 rfl _ _ _ _ rfl rfl rfl)).blkI ((hE.h2).far4 (by omega) _ _ _ _)).blkI ((hE.here.1.2).far4 (by omega) _ _ _ _)).blkI ((hE.here.2).s4 _ _ _ _));go_simp;clear x18_0 x18_1 x18_2 x18_3 f18_0 f18_1 f18_2 f18_3 hgl18;generalize ((((W17.setCell ⟨G8_26,0,none⟩ (.bool sr)).setCell ⟨G8_26,1,none⟩ (.slice Ar nr cr)).setCell ⟨G8_26,2,none⟩ (.bool tr)).setCell ⟨G8_26,3,none⟩ (.slice Br mr dr))=W18 at hE⊢;refine hK.out _ _ (hE.e24.1.2) (fun hHeld=> ?_);clear hK K;try simp only[PL]
  refine wpAnyH_done (by kernel_rfl) ?_ _;go_wp2_with fail
  go_meet
  exact⟨G8_24,G8_25,G8_26,sn,An,nn,cn,tn,Bn,mn,dn,sm,Am,nm,cm,tm,Bm,mm,dm,sr,Ar,nr,cr,tr,Br,mr,dr,rfl,rfl,rfl,(((((((((((((((((((((((((((Env.again hE.bel).blkI (hE.e24.1.2)).fv (hE.e24.2)).fv (hE.e16.1.1.1.1.1.1.1.2)).blkI (hE.e16.1.1.1.1.1.1.2)).fv (hE.e16.1.1.1.1.1.2)).blkI (hE.e16.1.1.1.1.2)).fv (hE.e16.1.1.1.2)).fv (hE.e16.1.1.2)).blkI (hE.e16.1.2)).blkI (hE.e16.2)).blkI (hE.e8.1.1.1.1.1.1.1.2)).fv (hE.e8.1.1.1.1.1.1.2)).fv (hE.h13)).fv (hE.h12)).blkI (hE.h11)).blkI (hE.h10)).fv (hE.h9)).blkI (hE.h8)).blkI (hE.h7)).blkI (hE.h6)).fv (hE.h5)).fv (hE.h4)).fv (hE.h3)).blkI (hE.h2)).blkI (hE.here.1.2)).blkI (hE.here.2))⟩
 case rest=>
 clear hE;obtain⟨G8_24,G8_25,G8_26,sn,An,nn,cn,tn,Bn,mn,dn,sm,Am,nm,cm,tm,Bm,mm,dm,sr,Ar,nr,cr,tr,Br,mr,dr,rfl,rfl,rfl,hE⟩:=hcut;generalize wc=wk8 at hE⊢
 go_upto_region 9 with(fail)
 replace hE:=hE.drew;refine wp_region_held_drew (S:=fun V=>Blk 125 (gw) (wkE x t gA gD b0 b1 j) V/\Blk 29 (G1_11) (qf4 sv Av nv cv tv Bv mv dv) V/\Blk 29 (g5) (qf4 sp Ap np cp tp Bp mp dp) V/\Blk 29 (G6_24) (qf4 sl Al nl cl tl Bl ml dl) V) (by kernel_rfl) (⟨hE.e24.1.2,hE.e16.1.1.1.1.2,hE.e8.1.1.1.1.1.1.1.2,hE.h11⟩) (fun hHeld=> ?_)
 generalize wk8.drew=wd at*
 refine tk 0 ?_;refine tk 1 ?_;refine tk 2 ?_;refine tk 3 ?_;refine tk 4 ?_;refine tk 5 ?_
 refine tk 6 ?_ (hy:=by
  intro w hSw;have kc0:=(hSw.2.1).cell 0;have kc1:=(hSw.2.1).cell 1;have kc2:=(hSw.2.1).cell 2;have kc3:=(hSw.2.1).cell 3;clear hSw
  first|(go_simp;done)|(go_simp;with_reducible rfl))
 try simp only[PL]
 refine tk 7 ?_ (hy:=by
  intro w hSw;have kc0:=(hSw.2.2.1).cell 0;have kc1:=(hSw.2.2.1).cell 1;have kc2:=(hSw.2.2.1).cell 2;have kc3:=(hSw.2.2.1).cell 3;clear hSw
  first|(go_simp;done)|(go_simp;with_reducible rfl))
 try simp only[PL]
 refine tk 9 ?_ (hy:=by
  intro w hSw;have kc0:=(hSw.2.2.2).cell 0;have kc1:=(hSw.2.2.2).cell 1;have kc2:=(hSw.2.2.2).cell 2;have kc3:=(hSw.2.2.2).cell 3;clear hSw
  first|(go_simp;done)|(go_simp;with_reducible rfl))
 try simp only[PL]
 obtain⟨B9,hB9⟩:∃B,B=wd.heap.size:=⟨_,rfl⟩
 have hw9:w.heap.size<=B9:=by rw[hB9];exact hE.bel.size
 have hl9_0:gw<B9:=by rw[hB9];exact(hE.e24.1.2).lt
 have hl9_3:w.heap.size<B9:=by rw[hB9];exact(hE.e16.1.1.1.1.1.1.2).lt
 have hl9_5:G1_11<B9:=by rw[hB9];exact(hE.e16.1.1.1.1.2).lt
 have hl9_8:G2_24<B9:=by rw[hB9];exact(hE.e16.1.2).lt
 have hl9_9:G2_25<B9:=by rw[hB9];exact(hE.e16.2).lt
 have hl9_10:g5<B9:=by rw[hB9];exact(hE.e8.1.1.1.1.1.1.1.2).lt
 have hl9_14:G6_24<B9:=by rw[hB9];exact(hE.h11).lt
 have hl9_15:G6_25<B9:=by rw[hB9];exact(hE.h10).lt
 have hl9_17:G7_11<B9:=by rw[hB9];exact(hE.h8).lt
 have hl9_18:G7_12<B9:=by rw[hB9];exact(hE.h7).lt
 have hl9_19:G7_13<B9:=by rw[hB9];exact(hE.h6).lt
 have hl9_23:G8_24<B9:=by rw[hB9];exact(hE.h2).lt
 have hl9_24:G8_25<B9:=by rw[hB9];exact(hE.here.1.2).lt
 have hl9_25:G8_26<B9:=by rw[hB9];exact(hE.here.2).lt
 refine iv_region (I:=IvInv w _ _ B9 [⟨8,139,RFq (qv+qp)⟩,⟨10,141,RFq (qv+qp-ql)⟩,⟨11,15,ALq 29 qz4 B9⟩]) [8,10,11] (f1:=1) (by kernel_rfl) (by kernel_rfl) (by kernel_rfl) rfl (by kernel_rfl) (by kernel_rfl) (by rfl) (IvInv.start hE hB9 (by kernel_rfl)) ?steps9 ?end9
 case steps9=>
  have hst:∀g∈([⟨8,139,RFq (qv+qp)⟩,⟨10,141,RFq (qv+qp-ql)⟩,⟨11,15,ALq 29 qz4 B9⟩]:List IvSlot),∀x,Stable (g.R x):=(fun g hg=>by simp only[List.mem_cons,List.not_mem_nil,or_false] at hg;rcases hg with rfl|rfl|rfl<;>first|exact RFq.stable _|exact ALq.stable _ _ _|exact TUq.stable _|exact ERq.stable _)
  clear hE hHeld hB9;refine IvSteps.cons (ds:=[5,6,7]) rfl (by kernel_rfl) (fun D a W0 hI hD K hK=> ?_) ?_
  ·
   have hE:=hI.here;obtain⟨xs,rfl,-,hF,-,-⟩:=id hI;obtain⟨x9_8,xs,rfl,h9_8,hF⟩:=hF.uncons;obtain⟨x9_10,xs,rfl,h9_10,hF⟩:=hF.uncons;obtain⟨x9_11,xs,rfl,h9_11,hF⟩:=hF.uncons;obtain rfl:=hF.nil;clear hF;try simp only[ivPut,Act.put,List.setIfInBounds_toArray,List.set_cons_zero,List.set_cons_succ,List.getElem_toArray,List.getElem_cons_succ,List.getElem_cons_zero]
   go_simp;refine(eadd_v (ca:=cv) (da:=dv) (cb:=cp) (db:=dp) (wkC_sum (show Blk _ gw (wkC x (t:Int) gA gD b0 b1 j) _ from hE.e24.1.2)) (hE.e16.1.1.1.1.1.2) (hE.e8.1.1.1.1.1.1.2) HhL.out.l1 HhL.out.l4 HhL.out.b1).mono ?_
   rintro e W1 ⟨se,Ae,ne,ce,te,Be,me,de,rfl,hv,hb⟩
   have hE2:=hE.step hb;go_wp2_with fail
   refine hK.out _ _ (⟨hE2.e24.1.2,hE2.e16.1.1.1.1.2,hE2.e8.1.1.1.1.1.1.1.2,hE2.here.1.1.1.1.1.1.1.1.1.1.1.2⟩) ?_;exact hI.call (c:=ce) (d:=de) 0 hst rfl (by kernel_rfl) (by kernel_rfl) (by kernel_rfl) hb hv
  refine IvSteps.cons (ds:=[2,8,9,8]) rfl (by kernel_rfl) (fun D a W0 hI hD K hK=> ?_) ?_
  ·
   have hE:=hI.here;obtain⟨xs,rfl,-,hF,-,-⟩:=id hI;obtain⟨x9_8,xs,rfl,h9_8,hF⟩:=hF.uncons;obtain⟨x9_10,xs,rfl,h9_10,hF⟩:=hF.uncons;obtain⟨x9_11,xs,rfl,h9_11,hF⟩:=hF.uncons;obtain rfl:=hF.nil;clear hF;try simp only[ivPut,Act.put,List.setIfInBounds_toArray,List.set_cons_zero,List.set_cons_succ,List.getElem_toArray,List.getElem_cons_succ,List.getElem_cons_zero]
   obtain⟨se,Ae,ne,ce,te,Be,me,de,rfl,hq⟩:=h9_8 (hD 8 (by simp));replace hE:=hE.fv hq;clear hq;go_simp;refine(esub_v (ca:=ce) (da:=de) (cb:=cl) (db:=dl) (wkC_sum (show Blk _ gw (wkC x (t:Int) gA gD b0 b1 j) _ from hE.e24.1.1.2)) (hE.here.2) (hE.e8.1.1.1.1.1.1.2) HhL.out.b1 HhL.out.l5 HhL.out.b2).mono ?_
   rintro e W1 ⟨sf,Af,nf,cf,tf,Bf,mf,df,rfl,hv,hb⟩
   have hE2:=hE.step hb;go_wp2_with fail
   refine hK.out _ _ (⟨hE2.e24.1.1.2,hE2.e16.1.1.1.1.1.2,hE2.e16.2,hE2.here.1.1.1.1.1.1.1.1.1.1.1.1.2⟩) ?_;exact hI.call (c:=cf) (d:=df) 1 hst rfl (by kernel_rfl) (by kernel_rfl) (by kernel_rfl) hb hv
  refine IvSteps.cons (ds:=[]) rfl (by kernel_rfl) (fun D a W0 hI hD K hK=> ?_) ?_
  ·
   have hE:=hI.here;obtain⟨xs,rfl,-,hF,-,-⟩:=id hI;obtain⟨x9_8,xs,rfl,h9_8,hF⟩:=hF.uncons;obtain⟨x9_10,xs,rfl,h9_10,hF⟩:=hF.uncons;obtain⟨x9_11,xs,rfl,h9_11,hF⟩:=hF.uncons;obtain rfl:=hF.nil;clear hF;try simp only[ivPut,Act.put,List.setIfInBounds_toArray,List.set_cons_zero,List.set_cons_succ,List.getElem_toArray,List.getElem_cons_succ,List.getElem_cons_zero]
   go_simp;have hE2:=hE.alloc (.cells qz4 29);refine hK.out _ _ (⟨hE2.e24.1.2,hE2.e16.1.1.1.1.2,hE2.e8.1.1.1.1.1.1.1.2,hE2.here.1.1.1.1.1.1.1.1.1.1.1.2⟩) ?_;exact hI.alloc 2 hst rfl (by kernel_rfl) (by kernel_rfl) (by kernel_rfl)
  exact IvSteps.nil
 clear hE hHeld hB9;intro D a W9 hI hD;have hE:=hI.here;obtain⟨xs,rfl,-,hF,hA,-⟩:=id hI;clear hI;obtain⟨x9_8,xs,rfl,h9_8,hF⟩:=hF.uncons;obtain⟨x9_10,xs,rfl,h9_10,hF⟩:=hF.uncons;obtain⟨x9_11,xs,rfl,h9_11,hF⟩:=hF.uncons;obtain rfl:=hF.nil;clear hF;obtain⟨se,Ae,ne,ce,te,Be,me,de,rfl,hq8⟩:=h9_8 (hD 8 (by simp));obtain⟨sf,Af,nf,cf,tf,Bf,mf,df,rfl,hq10⟩:=h9_10 (hD 10 (by simp));obtain⟨G9_11,rfl,hg9_11,hq11⟩:=h9_11 (hD 11 (by simp));replace hE:=(((hE.fv hq8).fv hq10).blkI hq11);clear hA hD hq8 h9_8 hq10 h9_10 hq11 h9_11;try simp only[ivPut,Act.put,List.setIfInBounds_toArray,List.set_cons_zero,List.set_cons_succ,List.getElem_toArray,List.getElem_cons_succ,List.getElem_cons_zero]
 have hHeld:(fun V=>Blk 125 (gw) (wkE x t gA gD b0 b1 j) V/\Blk 29 (G1_11) (qf4 sv Av nv cv tv Bv mv dv) V/\Blk 29 (g5) (qf4 sp Ap np cp tp Bp mp dp) V/\Blk 29 (G6_24) (qf4 sl Al nl cl tl Bl ml dl) V) W9:=⟨hE.e24.1.1.1.1.2,hE.e16.1.1.1.1.1.1.1.2,hE.e16.1.1.2,hE.e8.1.1.1.1.1.1.2⟩;refine r1 12 (fun K hK=> ?_)
 have hgl19:w.heap.size<=G9_11:=by omega
 obtain⟨x19_0,x19_1,x19_2,x19_3⟩:=(hE.here.2).c4;obtain⟨f19_0,f19_1,f19_2,f19_3⟩:=hE.here.2.f4;replace hE:=((((((((((((((((((((((((((((((Env.again (bel4 hE.bel hgl19 (.bool sf) (.slice Af nf cf) (.bool tf) (.slice Bf mf df))).blkI ((hE.e24.1.1.1.1.2).far4 (by omega) _ _ _ _)).fv ((hE.e24.1.1.1.2).sep4 hE.here.2 rfl _ _ _ _ rfl rfl rfl)).fv ((hE.e24.1.1.2).sep4 hE.here.2 rfl _ _ _ _ rfl rfl rfl)).blkI ((hE.e24.1.2).far4 (by omega) _ _ _ _)).fv ((hE.e24.2).sep4 hE.here.2 rfl _ _ _ _ rfl rfl rfl)).blkI ((hE.e16.1.1.1.1.1.1.1.2).far4 (by omega) _ _ _ _)).fv ((hE.e16.1.1.1.1.1.1.2).sep4 hE.here.2 rfl _ _ _ _ rfl rfl rfl)).fv ((hE.e16.1.1.1.1.1.2).sep4 hE.here.2 rfl _ _ _ _ rfl rfl rfl)).blkI ((hE.e16.1.1.1.1.2).far4 (by omega) _ _ _ _)).blkI ((hE.e16.1.1.1.2).far4 (by omega) _ _ _ _)).blkI ((hE.e16.1.1.2).far4 (by omega) _ _ _ _)).fv ((hE.e16.1.2).sep4 hE.here.2 rfl _ _ _ _ rfl rfl rfl)).fv ((hE.e16.2).sep4 hE.here.2 rfl _ _ _ _ rfl rfl rfl)).fv ((hE.e8.1.1.1.1.1.1.1.2).sep4 hE.here.2 rfl _ _ _ _ rfl rfl rfl)).blkI ((hE.e8.1.1.1.1.1.1.2).far4 (by omega) _ _ _ _)).blkI ((hE.h13).far4 (by omega) _ _ _ _)).fv ((hE.h12).sep4 hE.here.2 rfl _ _ _ _ rfl rfl rfl)).blkI ((hE.h11).far4 (by omega) _ _ _ _)).blkI ((hE.h10).far4 (by omega) _ _ _ _)).blkI ((hE.h9).far4 (by omega) _ _ _ _)).fv ((hE.h8).sep4 hE.here.2 rfl _ _ _ _ rfl rfl rfl)).fv ((hE.h7).sep4 hE.here.2 rfl _ _ _ _ rfl rfl rfl)).fv ((hE.h6).sep4 hE.here.2 rfl _ _ _ _ rfl rfl rfl)).blkI ((hE.h5).far4 (by omega) _ _ _ _)).blkI ((hE.h4).far4 (by omega) _ _ _ _)).blkI ((hE.h3).far4 (by omega) _ _ _ _)).fv ((hE.h2).sep4 hE.here.2 rfl _ _ _ _ rfl rfl rfl)).fv ((hE.here.1.2).sep4 hE.here.2 rfl _ _ _ _ rfl rfl rfl)).blkI ((hE.here.2).s4 _ _ _ _));go_simp;clear x19_0 x19_1 x19_2 x19_3 f19_0 f19_1 f19_2 f19_3 hgl19;generalize ((((W9.setCell ⟨G9_11,0,none⟩ (.bool sf)).setCell ⟨G9_11,1,none⟩ (.slice Af nf cf)).setCell ⟨G9_11,2,none⟩ (.bool tf)).setCell ⟨G9_11,3,none⟩ (.slice Bf mf df))=W19 at hE⊢;refine hK.out _ _ (⟨hE.e24.1.1.1.1.2,hE.e16.1.1.1.1.1.1.1.2,hE.e16.1.1.2,hE.e8.1.1.1.1.1.1.2⟩) (fun hHeld=> ?_);clear hK K;try simp only[PL]
 refine wpAnyH_done (by kernel_rfl) ?_ _
 go_upto_region 10 with(fail)
 clear hw9 hl9_0 hl9_3 hl9_5 hl9_8 hl9_9 hl9_10 hl9_14 hl9_15 hl9_17 hl9_18 hl9_19 hl9_23 hl9_24 hl9_25 hg9_11
 have hln:fl qn<=256/\fl qm<=256/\fl (qn-qm)<=256:=by rw[<-Hhqs.out,<-Hhqn.out,<-Hhqm.out];exact⟨fl_i40 (by omega) (by omega),fl_i40 (by omega) (by omega),fl_i40 (by omega) (by omega)⟩
 have hl1:fl ((1:Int):Rat)<=256:=fl_i40 (by decide) (by decide);replace hE:=hE.drew;refine wp_region_held_drew (S:=fun V=>Blk 125 (gw) (wkE x t gA gD b0 b1 j) V/\Blk 29 (G8_24) (qf4 sn An nn cn tn Bn mn dn) V/\Blk 29 (G9_11) (qf4 sf Af nf cf tf Bf mf df) V) (by kernel_rfl) (⟨hE.e24.1.1.1.1.2,hE.h5,hE.here.2⟩) (fun hHeld=> ?_)
 generalize W19.drew=wd at*
 refine tk 0 ?_;refine tk 1 ?_;refine tk 2 ?_
 refine tk 3 ?_ (hy:=by
  intro w hSw;have kc0:=(hSw.2.1).cell 0;have kc1:=(hSw.2.1).cell 1;have kc2:=(hSw.2.1).cell 2;have kc3:=(hSw.2.1).cell 3;clear hSw
  first|(go_simp;done)|(go_simp;with_reducible rfl))
 try simp only[PL]
 refine tk 4 ?_ (hy:=by
  intro w hSw;have kc0:=(hSw.2.2).cell 0;have kc1:=(hSw.2.2).cell 1;have kc2:=(hSw.2.2).cell 2;have kc3:=(hSw.2.2).cell 3;clear hSw
  first|(go_simp;done)|(go_simp;with_reducible rfl))
 try simp only[PL]
 obtain⟨B10,hB10⟩:∃B,B=wd.heap.size:=⟨_,rfl⟩
 have hw10:w.heap.size<=B10:=by rw[hB10];exact hE.bel.size
 have hl10_0:gw<B10:=by rw[hB10];exact(hE.e24.1.1.1.1.2).lt
 have hl10_3:w.heap.size<B10:=by rw[hB10];exact(hE.e24.1.2).lt
 have hl10_5:G1_11<B10:=by rw[hB10];exact(hE.e16.1.1.1.1.1.1.1.2).lt
 have hl10_8:G2_24<B10:=by rw[hB10];exact(hE.e16.1.1.1.1.2).lt
 have hl10_9:G2_25<B10:=by rw[hB10];exact(hE.e16.1.1.1.2).lt
 have hl10_10:g5<B10:=by rw[hB10];exact(hE.e16.1.1.2).lt
 have hl10_14:G6_24<B10:=by rw[hB10];exact(hE.e8.1.1.1.1.1.1.2).lt
 have hl10_15:G6_25<B10:=by rw[hB10];exact(hE.h13).lt
 have hl10_17:G7_11<B10:=by rw[hB10];exact(hE.h11).lt
 have hl10_18:G7_12<B10:=by rw[hB10];exact(hE.h10).lt
 have hl10_19:G7_13<B10:=by rw[hB10];exact(hE.h9).lt
 have hl10_23:G8_24<B10:=by rw[hB10];exact(hE.h5).lt
 have hl10_24:G8_25<B10:=by rw[hB10];exact(hE.h4).lt
 have hl10_25:G8_26<B10:=by rw[hB10];exact(hE.h3).lt
 have hl10_28:G9_11<B10:=by rw[hB10];exact(hE.here.2).lt
 refine iv_region (I:=IvInv w _ _ B10 [⟨5,147,RFq (qn*(qv+qp-ql))⟩,⟨6,16,ALq 29 qz4 B10⟩]) [5,6] (f1:=1) (by kernel_rfl) (by kernel_rfl) (by kernel_rfl) rfl (by kernel_rfl) (by kernel_rfl) (by rfl) (IvInv.start hE hB10 (by kernel_rfl)) ?steps10 ?end10
 case steps10=>
  have hst:∀g∈([⟨5,147,RFq (qn*(qv+qp-ql))⟩,⟨6,16,ALq 29 qz4 B10⟩]:List IvSlot),∀x,Stable (g.R x):=(fun g hg=>by simp only[List.mem_cons,List.not_mem_nil,or_false] at hg;rcases hg with rfl|rfl<;>first|exact RFq.stable _|exact ALq.stable _ _ _|exact TUq.stable _|exact ERq.stable _)
  clear hE hHeld hB10;refine IvSteps.cons (ds:=[2,3,4]) rfl (by kernel_rfl) (fun D a W0 hI hD K hK=> ?_) ?_
  ·
   have hE:=hI.here;obtain⟨xs,rfl,-,hF,-,-⟩:=id hI;obtain⟨x10_5,xs,rfl,h10_5,hF⟩:=hF.uncons;obtain⟨x10_6,xs,rfl,h10_6,hF⟩:=hF.uncons;obtain rfl:=hF.nil;clear hF;try simp only[ivPut,Act.put,List.setIfInBounds_toArray,List.set_cons_zero,List.set_cons_succ,List.getElem_toArray,List.getElem_cons_succ,List.getElem_cons_zero]
   go_simp;refine(emul_v (ca:=cn) (da:=dn) (cb:=cf) (db:=df) (wkC_sum (show Blk _ gw (wkC x (t:Int) gA gD b0 b1 j) _ from hE.e24.1.1.1.1.2)) (hE.h8) (hE.here.1.2) hln.1 HhL.out.b2 HhL.out.b3).mono ?_
   rintro e W1 ⟨sg,Ag,ng,cg,tg,Bg,mg,dg,rfl,hv,hb⟩
   have hE2:=hE.step hb;go_wp2_with fail
   refine hK.out _ _ (⟨hE2.e24.1.1.1.1.2,hE2.here.1.1.1.1.1.2,hE2.here.2⟩) ?_;exact hI.call (c:=cg) (d:=dg) 0 hst rfl (by kernel_rfl) (by kernel_rfl) (by kernel_rfl) hb hv
  refine IvSteps.cons (ds:=[]) rfl (by kernel_rfl) (fun D a W0 hI hD K hK=> ?_) ?_
  ·
   have hE:=hI.here;obtain⟨xs,rfl,-,hF,-,-⟩:=id hI;obtain⟨x10_5,xs,rfl,h10_5,hF⟩:=hF.uncons;obtain⟨x10_6,xs,rfl,h10_6,hF⟩:=hF.uncons;obtain rfl:=hF.nil;clear hF;try simp only[ivPut,Act.put,List.setIfInBounds_toArray,List.set_cons_zero,List.set_cons_succ,List.getElem_toArray,List.getElem_cons_succ,List.getElem_cons_zero]
   go_simp;have hE2:=hE.alloc (.cells qz4 29);refine hK.out _ _ (⟨hE2.e24.1.1.1.1.2,hE2.here.1.1.1.1.1.2,hE2.here.2⟩) ?_;exact hI.alloc 1 hst rfl (by kernel_rfl) (by kernel_rfl) (by kernel_rfl)
  exact IvSteps.nil
 clear hE hHeld hB10;intro D a W10 hI hD;have hE:=hI.here;obtain⟨xs,rfl,-,hF,hA,-⟩:=id hI;clear hI;obtain⟨x10_5,xs,rfl,h10_5,hF⟩:=hF.uncons;obtain⟨x10_6,xs,rfl,h10_6,hF⟩:=hF.uncons;obtain rfl:=hF.nil;clear hF;obtain⟨sg,Ag,ng,cg,tg,Bg,mg,dg,rfl,hq5⟩:=h10_5 (hD 5 (by simp));obtain⟨G10_6,rfl,hg10_6,hq6⟩:=h10_6 (hD 6 (by simp));replace hE:=((hE.fv hq5).blkI hq6);clear hA hD hq5 h10_5 hq6 h10_6;try simp only[ivPut,Act.put,List.setIfInBounds_toArray,List.set_cons_zero,List.set_cons_succ,List.getElem_toArray,List.getElem_cons_succ,List.getElem_cons_zero]
 have hHeld:(fun V=>Blk 125 (gw) (wkE x t gA gD b0 b1 j) V/\Blk 29 (G8_24) (qf4 sn An nn cn tn Bn mn dn) V/\Blk 29 (G9_11) (qf4 sf Af nf cf tf Bf mf df) V) W10:=⟨hE.e24.1.1.1.1.1.1.2,hE.h7,hE.h2⟩;refine r1 7 (fun K hK=> ?_)
 have hgl20:w.heap.size<=G10_6:=by omega
 obtain⟨x20_0,x20_1,x20_2,x20_3⟩:=(hE.here.2).c4;obtain⟨f20_0,f20_1,f20_2,f20_3⟩:=hE.here.2.f4;replace hE:=((((((((((((((((((((((((((((((((Env.again (bel4 hE.bel hgl20 (.bool sg) (.slice Ag ng cg) (.bool tg) (.slice Bg mg dg))).blkI ((hE.e24.1.1.1.1.1.1.2).far4 (by omega) _ _ _ _)).fv ((hE.e24.1.1.1.1.1.2).sep4 hE.here.2 rfl _ _ _ _ rfl rfl rfl)).fv ((hE.e24.1.1.1.1.2).sep4 hE.here.2 rfl _ _ _ _ rfl rfl rfl)).blkI ((hE.e24.1.1.1.2).far4 (by omega) _ _ _ _)).fv ((hE.e24.1.1.2).sep4 hE.here.2 rfl _ _ _ _ rfl rfl rfl)).blkI ((hE.e24.1.2).far4 (by omega) _ _ _ _)).fv ((hE.e24.2).sep4 hE.here.2 rfl _ _ _ _ rfl rfl rfl)).fv ((hE.e16.1.1.1.1.1.1.1.2).sep4 hE.here.2 rfl _ _ _ _ rfl rfl rfl)).blkI ((hE.e16.1.1.1.1.1.1.2).far4 (by omega) _ _ _ _)).blkI ((hE.e16.1.1.1.1.1.2).far4 (by omega) _ _ _ _)).blkI ((hE.e16.1.1.1.1.2).far4 (by omega) _ _ _ _)).fv ((hE.e16.1.1.1.2).sep4 hE.here.2 rfl _ _ _ _ rfl rfl rfl)).fv ((hE.e16.1.1.2).sep4 hE.here.2 rfl _ _ _ _ rfl rfl rfl)).fv ((hE.e16.1.2).sep4 hE.here.2 rfl _ _ _ _ rfl rfl rfl)).blkI ((hE.e16.2).far4 (by omega) _ _ _ _)).blkI ((hE.e8.1.1.1.1.1.1.1.2).far4 (by omega) _ _ _ _)).fv ((hE.e8.1.1.1.1.1.1.2).sep4 hE.here.2 rfl _ _ _ _ rfl rfl rfl)).blkI ((hE.h13).far4 (by omega) _ _ _ _)).blkI ((hE.h12).far4 (by omega) _ _ _ _)).blkI ((hE.h11).far4 (by omega) _ _ _ _)).fv ((hE.h10).sep4 hE.here.2 rfl _ _ _ _ rfl rfl rfl)).fv ((hE.h9).sep4 hE.here.2 rfl _ _ _ _ rfl rfl rfl)).fv ((hE.h8).sep4 hE.here.2 rfl _ _ _ _ rfl rfl rfl)).blkI ((hE.h7).far4 (by omega) _ _ _ _)).blkI ((hE.h6).far4 (by omega) _ _ _ _)).blkI ((hE.h5).far4 (by omega) _ _ _ _)).fv ((hE.h4).sep4 hE.here.2 rfl _ _ _ _ rfl rfl rfl)).fv ((hE.h3).sep4 hE.here.2 rfl _ _ _ _ rfl rfl rfl)).blkI ((hE.h2).far4 (by omega) _ _ _ _)).fv ((hE.here.1.2).sep4 hE.here.2 rfl _ _ _ _ rfl rfl rfl)).blkI ((hE.here.2).s4 _ _ _ _));go_simp;clear x20_0 x20_1 x20_2 x20_3 f20_0 f20_1 f20_2 f20_3 hgl20;generalize ((((W10.setCell ⟨G10_6,0,none⟩ (.bool sg)).setCell ⟨G10_6,1,none⟩ (.slice Ag ng cg)).setCell ⟨G10_6,2,none⟩ (.bool tg)).setCell ⟨G10_6,3,none⟩ (.slice Bg mg dg))=W20 at hE⊢;refine hK.out _ _ (⟨hE.e24.1.1.1.1.1.1.2,hE.h7,hE.h2⟩) (fun hHeld=> ?_);clear hK K;try simp only[PL]
 refine wpAnyH_done (by kernel_rfl) ?_ _
 go_upto_region 11 with(fail)
 clear hw10 hl10_0 hl10_3 hl10_5 hl10_8 hl10_9 hl10_10 hl10_14 hl10_15 hl10_17 hl10_18 hl10_19 hl10_23 hl10_24 hl10_25 hl10_28 hg10_6
 go_cut [17] from 131 to 159 (fun p0 wx=>∃G11_11 so1 Ao1 no1 co1 to1 Bo1 mo1 do1 sh Ah nh ch th Bh mh dh sw Aw nw cw tw Bw mw dw,p0= .pointer (some ⟨G11_11,0,none⟩)/\Env w (fun V=>(((((((((((((((((((((((((((((((((((True/\Blk 125 (gw) (wkE x t gA gD b0 b1 j) V)/\FV V qi b0.i.s b0.i.A b0.i.n b0.i.t b0.i.B b0.i.m)/\FV V qj j.s j.A j.n j.t j.B j.m)/\Blk 126 (w.heap.size) #[.bool false,.slice none 0 0,.bool false,.slice none 0 0,.bool false,.slice none 0 0,.bool false,.slice none 0 0,.bool false,.slice none 0 0,.bool false,.slice none 0 0,.bool false,.slice none 0 0,.bool false,.slice none 0 0,.bool false,.slice none 0 0,.bool false,.slice none 0 0,.bool false,.slice none 0 0,.bool false,.slice none 0 0,.bool false,.slice none 0 0,.bool false,.slice none 0 0,.bool false,.slice none 0 0,.bool false,.slice none 0 0,.bool false,.slice none 0 0,.bool false,.slice none 0 0,.bool false,.slice none 0 0,.bool false,.slice none 0 0] V)/\FV V qv sv Av nv tv Bv mv)/\Blk 29 (G1_11) (qf4 sv Av nv cv tv Bv mv dv) V)/\FV V qa sa Aa na ta Ba ma)/\FV V qu su Au nu tu Bu mu)/\Blk 29 (G2_24) (qf4 sa Aa na ca ta Ba ma da) V)/\Blk 29 (G2_25) (qf4 su Au nu cu tu Bu mu du) V)/\Blk 29 (g5) (qf4 sp Ap np cp tp Bp mp dp) V)/\FV V qp sp Ap np tp Bp mp)/\FV V ql sl Al nl tl Bl ml)/\FV V qd sd Ad nd td Bd md)/\Blk 29 (G6_24) (qf4 sl Al nl cl tl Bl ml dl) V)/\Blk 29 (G6_25) (qf4 sd Ad nd cd td Bd md dd) V)/\FV V qq sq Aq nq tq Bq mq)/\Blk 29 (G7_11) (qf4 b0.i.s b0.i.A b0.i.n b0.i.c b0.i.t b0.i.B b0.i.m b0.i.d) V)/\Blk 29 (G7_12) (qf4 j.s j.A j.n j.c j.t j.B j.m j.d) V)/\Blk 29 (G7_13) (qf4 sq Aq nq cq tq Bq mq dq) V)/\FV V qn sn An nn tn Bn mn)/\FV V qm sm Am nm tm Bm mm)/\FV V (qn-qm) sr Ar nr tr Br mr)/\Blk 29 (G8_24) (qf4 sn An nn cn tn Bn mn dn) V)/\Blk 29 (G8_25) (qf4 sm Am nm cm tm Bm mm dm) V)/\Blk 29 (G8_26) (qf4 sr Ar nr cr tr Br mr dr) V)/\FV V (qv+qp) se Ae ne te Be me)/\FV V (qv+qp-ql) sf Af nf tf Bf mf)/\Blk 29 (G9_11) (qf4 sf Af nf cf tf Bf mf df) V)/\FV V (qn*(qv+qp-ql)) sg Ag ng tg Bg mg)/\Blk 29 (G10_6) (qf4 sg Ag ng cg tg Bg mg dg) V)/\FV V ((1:Int):Rat) so1 Ao1 no1 to1 Bo1 mo1)/\FV V (((1:Int):Rat)+qi) sh Ah nh th Bh mh)/\FV V ((qv+qp-ql)*(1+qi)) sw Aw nw tw Bw mw)/\Blk 29 (G11_11) (qf4 sw Aw nw cw tw Bw mw dw) V)) wx)
 case first=>
  replace hE:=hE.drew;refine wp_region_held_drew (S:=fun V=>Blk 125 (gw) (wkE x t gA gD b0 b1 j) V/\Blk 29 (G9_11) (qf4 sf Af nf cf tf Bf mf df) V/\Blk 29 (G7_11) (qf4 b0.i.s b0.i.A b0.i.n b0.i.c b0.i.t b0.i.B b0.i.m b0.i.d) V) (by kernel_rfl) (⟨hE.e24.1.1.1.1.1.1.2,hE.h2,hE.h13⟩) (fun hHeld=> ?_)
  generalize W20.drew=wd at*
  refine tk 0 ?_;refine tk 1 ?_;refine tk 2 ?_
  refine tk 3 ?_ (hy:=by
   intro w hSw;have kc0:=(hSw.2.1).cell 0;have kc1:=(hSw.2.1).cell 1;have kc2:=(hSw.2.1).cell 2;have kc3:=(hSw.2.1).cell 3;clear hSw
   first|(go_simp;done)|(go_simp;with_reducible rfl))
  try simp only[PL]
  refine tk 4 ?_;refine tk 5 ?_;refine tk 6 ?_
  refine tk 8 ?_ (hy:=by
   intro w hSw;have kc0:=(hSw.2.2).cell 0;have kc1:=(hSw.2.2).cell 1;have kc2:=(hSw.2.2).cell 2;have kc3:=(hSw.2.2).cell 3;clear hSw
   first|(go_simp;done)|(go_simp;with_reducible rfl))
  try simp only[PL]
  obtain⟨B11,hB11⟩:∃B,B=wd.heap.size:=⟨_,rfl⟩
  have hw11:w.heap.size<=B11:=by rw[hB11];exact hE.bel.size
  have hl11_0:gw<B11:=by rw[hB11];exact(hE.e24.1.1.1.1.1.1.2).lt
  have hl11_3:w.heap.size<B11:=by rw[hB11];exact(hE.e24.1.1.1.2).lt
  have hl11_5:G1_11<B11:=by rw[hB11];exact(hE.e24.1.2).lt
  have hl11_8:G2_24<B11:=by rw[hB11];exact(hE.e16.1.1.1.1.1.1.2).lt
  have hl11_9:G2_25<B11:=by rw[hB11];exact(hE.e16.1.1.1.1.1.2).lt
  have hl11_10:g5<B11:=by rw[hB11];exact(hE.e16.1.1.1.1.2).lt
  have hl11_14:G6_24<B11:=by rw[hB11];exact(hE.e16.2).lt
  have hl11_15:G6_25<B11:=by rw[hB11];exact(hE.e8.1.1.1.1.1.1.1.2).lt
  have hl11_17:G7_11<B11:=by rw[hB11];exact(hE.h13).lt
  have hl11_18:G7_12<B11:=by rw[hB11];exact(hE.h12).lt
  have hl11_19:G7_13<B11:=by rw[hB11];exact(hE.h11).lt
  have hl11_23:G8_24<B11:=by rw[hB11];exact(hE.h7).lt
  have hl11_24:G8_25<B11:=by rw[hB11];exact(hE.h6).lt
  have hl11_25:G8_26<B11:=by rw[hB11];exact(hE.h5).lt
  have hl11_28:G9_11<B11:=by rw[hB11];exact(hE.h2).lt
  have hl11_30:G10_6<B11:=by rw[hB11];exact(hE.here.2).lt
  refine iv_region (I:=IvInv w _ _ B11 [⟨7,155,RFq ((1:Int):Rat)⟩,⟨9,157,RFq (((1:Int):Rat)+qi)⟩,⟨10,158,RFq ((qv+qp-ql)*(1+qi))⟩,⟨11,17,ALq 29 qz4 B11⟩]) [7,9,10,11] (f1:=1) (by kernel_rfl) (by kernel_rfl) (by kernel_rfl) rfl (by kernel_rfl) (by kernel_rfl) (by rfl) (IvInv.start hE hB11 (by kernel_rfl)) ?steps11 ?end11
  case steps11=>
   have hst:∀g∈([⟨7,155,RFq ((1:Int):Rat)⟩,⟨9,157,RFq (((1:Int):Rat)+qi)⟩,⟨10,158,RFq ((qv+qp-ql)*(1+qi))⟩,⟨11,17,ALq 29 qz4 B11⟩]:List IvSlot),∀x,Stable (g.R x):=(fun g hg=>by simp only[List.mem_cons,List.not_mem_nil,or_false] at hg;rcases hg with rfl|rfl|rfl|rfl<;>first|exact RFq.stable _|exact ALq.stable _ _ _|exact TUq.stable _|exact ERq.stable _)
   clear hE hHeld hB11;refine IvSteps.cons (ds:=[]) rfl (by kernel_rfl) (fun D a W0 hI hD K hK=> ?_) ?_
   ·
    have hE:=hI.here;obtain⟨xs,rfl,-,hF,-,-⟩:=id hI;obtain⟨x11_7,xs,rfl,h11_7,hF⟩:=hF.uncons;obtain⟨x11_9,xs,rfl,h11_9,hF⟩:=hF.uncons;obtain⟨x11_10,xs,rfl,h11_10,hF⟩:=hF.uncons;obtain⟨x11_11,xs,rfl,h11_11,hF⟩:=hF.uncons;obtain rfl:=hF.nil;clear hF;try simp only[ivPut,Act.put,List.setIfInBounds_toArray,List.set_cons_zero,List.set_cons_succ,List.getElem_toArray,List.getElem_cons_succ,List.getElem_cons_zero]
    go_simp;refine(ffromInt_v 1 _ (by decide) (by decide)).mono ?_
    rintro e W1 ⟨so1,Ao1,no1,co1,to1,Bo1,mo1,do1,rfl,hv,hb⟩
    have hE2:=hE.step hb;go_wp2_with fail
    refine hK.out _ _ (⟨hE2.e24.1.1.1.1.1.1.2,hE2.here.1.1.2,hE2.here.1.1.1.1.1.1.1.1.1.1.1.1.1.2⟩) ?_;exact hI.call (c:=co1) (d:=do1) 0 hst rfl (by kernel_rfl) (by kernel_rfl) (by kernel_rfl) hb hv
   refine IvSteps.cons (ds:=[6,7,8,7]) rfl (by kernel_rfl) (fun D a W0 hI hD K hK=> ?_) ?_
   ·
    have hE:=hI.here;obtain⟨xs,rfl,-,hF,-,-⟩:=id hI;obtain⟨x11_7,xs,rfl,h11_7,hF⟩:=hF.uncons;obtain⟨x11_9,xs,rfl,h11_9,hF⟩:=hF.uncons;obtain⟨x11_10,xs,rfl,h11_10,hF⟩:=hF.uncons;obtain⟨x11_11,xs,rfl,h11_11,hF⟩:=hF.uncons;obtain rfl:=hF.nil;clear hF;try simp only[ivPut,Act.put,List.setIfInBounds_toArray,List.set_cons_zero,List.set_cons_succ,List.getElem_toArray,List.getElem_cons_succ,List.getElem_cons_zero]
    obtain⟨so1,Ao1,no1,co1,to1,Bo1,mo1,do1,rfl,hq⟩:=h11_7 (hD 7 (by simp));replace hE:=hE.fv hq;clear hq;go_simp;refine(eadd_v (ca:=co1) (da:=do1) (cb:=b0.i.c) (db:=b0.i.d) (wkC_sum (show Blk _ gw (wkC x (t:Int) gA gD b0 b1 j) _ from hE.e24.1.1.1.1.1.1.1.2)) (hE.here.2) (hE.e24.1.1.1.1.1.1.2) hl1 HhL.out.l7 HhL.out.b4).mono ?_
    rintro e W1 ⟨sh,Ah,nh,ch,th,Bh,mh,dh,rfl,hv,hb⟩
    have hE2:=hE.step hb;go_wp2_with fail
    refine hK.out _ _ (⟨hE2.e24.1.1.1.1.1.1.1.2,hE2.here.1.1.1.2,hE2.e8.1.1.1.1.1.1.2⟩) ?_;exact hI.call (c:=ch) (d:=dh) 1 hst rfl (by kernel_rfl) (by kernel_rfl) (by kernel_rfl) hb hv
   refine IvSteps.cons (ds:=[2,3,9,9]) rfl (by kernel_rfl) (fun D a W0 hI hD K hK=> ?_) ?_
   ·
    have hE:=hI.here;obtain⟨xs,rfl,-,hF,-,-⟩:=id hI;obtain⟨x11_7,xs,rfl,h11_7,hF⟩:=hF.uncons;obtain⟨x11_9,xs,rfl,h11_9,hF⟩:=hF.uncons;obtain⟨x11_10,xs,rfl,h11_10,hF⟩:=hF.uncons;obtain⟨x11_11,xs,rfl,h11_11,hF⟩:=hF.uncons;obtain rfl:=hF.nil;clear hF;try simp only[ivPut,Act.put,List.setIfInBounds_toArray,List.set_cons_zero,List.set_cons_succ,List.getElem_toArray,List.getElem_cons_succ,List.getElem_cons_zero]
    obtain⟨sh,Ah,nh,ch,th,Bh,mh,dh,rfl,hq⟩:=h11_9 (hD 9 (by simp));replace hE:=hE.fv hq;clear hq;go_simp;refine(emul_v (ca:=cf) (da:=df) (cb:=ch) (db:=dh) (wkC_sum (show Blk _ gw (wkC x (t:Int) gA gD b0 b1 j) _ from hE.e24.1.1.1.1.1.1.1.2)) (hE.h4) (hE.here.2) HhL.out.b2 HhL.out.b4 HhL.out.b5).mono ?_
    rintro e W1 ⟨sw,Aw,nw,cw,tw,Bw,mw,dw,rfl,hv,hb⟩
    have hE2:=hE.step hb;go_wp2_with fail
    refine hK.out _ _ (⟨hE2.e24.1.1.1.1.1.1.1.2,hE2.here.1.1.1.2,hE2.e8.1.1.1.1.1.1.2⟩) ?_;exact hI.call (c:=cw) (d:=dw) 2 hst rfl (by kernel_rfl) (by kernel_rfl) (by kernel_rfl) hb hv
   refine IvSteps.cons (ds:=[]) rfl (by kernel_rfl) (fun D a W0 hI hD K hK=> ?_) ?_
   ·
    have hE:=hI.here;obtain⟨xs,rfl,-,hF,-,-⟩:=id hI;obtain⟨x11_7,xs,rfl,h11_7,hF⟩:=hF.uncons;obtain⟨x11_9,xs,rfl,h11_9,hF⟩:=hF.uncons;obtain⟨x11_10,xs,rfl,h11_10,hF⟩:=hF.uncons;obtain⟨x11_11,xs,rfl,h11_11,hF⟩:=hF.uncons;obtain rfl:=hF.nil;clear hF;try simp only[ivPut,Act.put,List.setIfInBounds_toArray,List.set_cons_zero,List.set_cons_succ,List.getElem_toArray,List.getElem_cons_succ,List.getElem_cons_zero]
    go_simp;have hE2:=hE.alloc (.cells qz4 29);refine hK.out _ _ (⟨hE2.e24.1.1.1.1.1.1.2,hE2.here.1.1.2,hE2.here.1.1.1.1.1.1.1.1.1.1.1.1.1.2⟩) ?_;exact hI.alloc 3 hst rfl (by kernel_rfl) (by kernel_rfl) (by kernel_rfl)
   exact IvSteps.nil
  clear hE hHeld hB11;intro D a W11 hI hD;have hE:=hI.here;obtain⟨xs,rfl,-,hF,hA,-⟩:=id hI;clear hI;obtain⟨x11_7,xs,rfl,h11_7,hF⟩:=hF.uncons;obtain⟨x11_9,xs,rfl,h11_9,hF⟩:=hF.uncons;obtain⟨x11_10,xs,rfl,h11_10,hF⟩:=hF.uncons;obtain⟨x11_11,xs,rfl,h11_11,hF⟩:=hF.uncons;obtain rfl:=hF.nil;clear hF;obtain⟨so1,Ao1,no1,co1,to1,Bo1,mo1,do1,rfl,hq7⟩:=h11_7 (hD 7 (by simp));obtain⟨sh,Ah,nh,ch,th,Bh,mh,dh,rfl,hq9⟩:=h11_9 (hD 9 (by simp));obtain⟨sw,Aw,nw,cw,tw,Bw,mw,dw,rfl,hq10⟩:=h11_10 (hD 10 (by simp));obtain⟨G11_11,rfl,hg11_11,hq11⟩:=h11_11 (hD 11 (by simp));replace hE:=((((hE.fv hq7).fv hq9).fv hq10).blkI hq11);clear hA hD hq7 h11_7 hq9 h11_9 hq10 h11_10 hq11 h11_11;try simp only[ivPut,Act.put,List.setIfInBounds_toArray,List.set_cons_zero,List.set_cons_succ,List.getElem_toArray,List.getElem_cons_succ,List.getElem_cons_zero]
  have hHeld:(fun V=>Blk 125 (gw) (wkE x t gA gD b0 b1 j) V/\Blk 29 (G9_11) (qf4 sf Af nf cf tf Bf mf df) V/\Blk 29 (G7_11) (qf4 b0.i.s b0.i.A b0.i.n b0.i.c b0.i.t b0.i.B b0.i.m b0.i.d) V) W11:=⟨hE.e32.1.1.2,hE.h6,hE.e16.1.2⟩;refine r1 12 (fun K hK=> ?_)
  have hgl21:w.heap.size<=G11_11:=by omega
  obtain⟨x21_0,x21_1,x21_2,x21_3⟩:=(hE.here.2).c4;obtain⟨f21_0,f21_1,f21_2,f21_3⟩:=hE.here.2.f4;replace hE:=((((((((((((((((((((((((((((((((((((Env.again (bel4 hE.bel hgl21 (.bool sw) (.slice Aw nw cw) (.bool tw) (.slice Bw mw dw))).blkI ((hE.e32.1.1.2).far4 (by omega) _ _ _ _)).fv ((hE.e32.1.2).sep4 hE.here.2 rfl _ _ _ _ rfl rfl rfl)).fv ((hE.e32.2).sep4 hE.here.2 rfl _ _ _ _ rfl rfl rfl)).blkI ((hE.e24.1.1.1.1.1.1.1.2).far4 (by omega) _ _ _ _)).fv ((hE.e24.1.1.1.1.1.1.2).sep4 hE.here.2 rfl _ _ _ _ rfl rfl rfl)).blkI ((hE.e24.1.1.1.1.1.2).far4 (by omega) _ _ _ _)).fv ((hE.e24.1.1.1.1.2).sep4 hE.here.2 rfl _ _ _ _ rfl rfl rfl)).fv ((hE.e24.1.1.1.2).sep4 hE.here.2 rfl _ _ _ _ rfl rfl rfl)).blkI ((hE.e24.1.1.2).far4 (by omega) _ _ _ _)).blkI ((hE.e24.1.2).far4 (by omega) _ _ _ _)).blkI ((hE.e24.2).far4 (by omega) _ _ _ _)).fv ((hE.e16.1.1.1.1.1.1.1.2).sep4 hE.here.2 rfl _ _ _ _ rfl rfl rfl)).fv ((hE.e16.1.1.1.1.1.1.2).sep4 hE.here.2 rfl _ _ _ _ rfl rfl rfl)).fv ((hE.e16.1.1.1.1.1.2).sep4 hE.here.2 rfl _ _ _ _ rfl rfl rfl)).blkI ((hE.e16.1.1.1.1.2).far4 (by omega) _ _ _ _)).blkI ((hE.e16.1.1.1.2).far4 (by omega) _ _ _ _)).fv ((hE.e16.1.1.2).sep4 hE.here.2 rfl _ _ _ _ rfl rfl rfl)).blkI ((hE.e16.1.2).far4 (by omega) _ _ _ _)).blkI ((hE.e16.2).far4 (by omega) _ _ _ _)).blkI ((hE.e8.1.1.1.1.1.1.1.2).far4 (by omega) _ _ _ _)).fv ((hE.e8.1.1.1.1.1.1.2).sep4 hE.here.2 rfl _ _ _ _ rfl rfl rfl)).fv ((hE.h13).sep4 hE.here.2 rfl _ _ _ _ rfl rfl rfl)).fv ((hE.h12).sep4 hE.here.2 rfl _ _ _ _ rfl rfl rfl)).blkI ((hE.h11).far4 (by omega) _ _ _ _)).blkI ((hE.h10).far4 (by omega) _ _ _ _)).blkI ((hE.h9).far4 (by omega) _ _ _ _)).fv ((hE.h8).sep4 hE.here.2 rfl _ _ _ _ rfl rfl rfl)).fv ((hE.h7).sep4 hE.here.2 rfl _ _ _ _ rfl rfl rfl)).blkI ((hE.h6).far4 (by omega) _ _ _ _)).fv ((hE.h5).sep4 hE.here.2 rfl _ _ _ _ rfl rfl rfl)).blkI ((hE.h4).far4 (by omega) _ _ _ _)).fv ((hE.h3).sep4 hE.here.2 rfl _ _ _ _ rfl rfl rfl)).fv ((hE.h2).sep4 hE.here.2 rfl _ _ _ _ rfl rfl rfl)).fv ((hE.here.1.2).sep4 hE.here.2 rfl _ _ _ _ rfl rfl rfl)).blkI ((hE.here.2).s4 _ _ _ _));go_simp
  clear x21_0 x21_1 x21_2 x21_3 f21_0 f21_1 f21_2 f21_3 hgl21;generalize ((((W11.setCell ⟨G11_11,0,none⟩ (.bool sw)).setCell ⟨G11_11,1,none⟩ (.slice Aw nw cw)).setCell ⟨G11_11,2,none⟩ (.bool tw)).setCell ⟨G11_11,3,none⟩ (.slice Bw mw dw))=W21 at hE⊢;refine hK.out _ _ (⟨hE.e32.1.1.2,hE.h6,hE.e16.1.2⟩) (fun hHeld=> ?_);clear hK K;try simp only[PL]
  refine wpAnyH_done (by kernel_rfl) ?_ _;go_wp2_with fail
  go_meet
  exact⟨G11_11,so1,Ao1,no1,co1,to1,Bo1,mo1,do1,sh,Ah,nh,ch,th,Bh,mh,dh,sw,Aw,nw,cw,tw,Bw,mw,dw,rfl,((((((((((((((((((((((((((((((((((((Env.again hE.bel).blkI (hE.e32.1.1.2)).fv (hE.e32.1.2)).fv (hE.e32.2)).blkI (hE.e24.1.1.1.1.1.1.1.2)).fv (hE.e24.1.1.1.1.1.1.2)).blkI (hE.e24.1.1.1.1.1.2)).fv (hE.e24.1.1.1.1.2)).fv (hE.e24.1.1.1.2)).blkI (hE.e24.1.1.2)).blkI (hE.e24.1.2)).blkI (hE.e24.2)).fv (hE.e16.1.1.1.1.1.1.1.2)).fv (hE.e16.1.1.1.1.1.1.2)).fv (hE.e16.1.1.1.1.1.2)).blkI (hE.e16.1.1.1.1.2)).blkI (hE.e16.1.1.1.2)).fv (hE.e16.1.1.2)).blkI (hE.e16.1.2)).blkI (hE.e16.2)).blkI (hE.e8.1.1.1.1.1.1.1.2)).fv (hE.e8.1.1.1.1.1.1.2)).fv (hE.h13)).fv (hE.h12)).blkI (hE.h11)).blkI (hE.h10)).blkI (hE.h9)).fv (hE.h8)).fv (hE.h7)).blkI (hE.h6)).fv (hE.h5)).blkI (hE.h4)).fv (hE.h3)).fv (hE.h2)).fv (hE.here.1.2)).blkI (hE.here.2))⟩
 case rest=>
 clear hE;obtain⟨G11_11,so1,Ao1,no1,co1,to1,Bo1,mo1,do1,sh,Ah,nh,ch,th,Bh,mh,dh,sw,Aw,nw,cw,tw,Bw,mw,dw,rfl,hE⟩:=hcut;generalize wc=wk11 at hE⊢
 go_upto_region 12 with(fail)
 refine esum12 hE HhL.out Hhqs.out hln (Kn.of rfl rfl ⟨rfl,rfl,rfl,rfl,rfl,rfl,rfl,rfl,rfl,rfl,rfl,rfl,rfl,rfl,rfl,rfl,trivial⟩) (fun _ _ _ _ _ h=>h) ?hend
 case hend=>
  intro a U hh ha hd9 hBk hF hBel;go_wp2_with fail
  refine bodyPost_ret (v:= .agg (sumC hh).toArray) (results_cell Tryz.results96 ha (run_loadVar_mid _ _ 0 _ (sumC hh) _ (fun j v hv=>by rw[Nat.zero_add,hBk.cell j,List.getElem?_toArray];exact hv) Tryz.underlying126 rfl (by kernel_rfl))) hd9 ?_;exact⟨hh,rfl,hF,hBel⟩
theorem esum_v {x:Ct}{gw:Nat}{gA gD:Int}{b0 b1:Bh}{j:FH}{t:Nat}{w:World}(hb:b0.rd w)(hd:b1.rd w)(hx:x.rd w)(hj:j.rd w)(hbb:b0.bd)(hdb:b1.bd)(hxb:x.bd)(hS:GrS b0 b1 ⟨x,(t:Int),gA,gD⟩)(hJ:JOK j)(hW:Blk 125 gw (wkC x (t:Int) gA gD b0 b1 j) w):
  Calls Tryz.prog 96 #[.pointer (some ⟨gw,0,none⟩)] w (SumR (grI b0 b1 j.q ⟨x,(t:Int),gA,gD⟩) w):=
 esum1_v rfl rfl rfl rfl rfl rfl rfl rfl rfl rfl rfl rfl hb hd hx hj hbb hdb hxb hS hJ hW (grI_l hS hb hd hx hJ hj)
end Go.Proofs.YtclbiihcbfnjmaaGreat
