/-
  Parts.
-/
import Derived.Test.YtclbiihcbfnjmaaGreatWrapE
import Derived.Test.YtclbiihcbfnjmaaGreatRows
import Derived.Test.YtclbiihcbfnjmaaGreatEEmpty
namespace Go.Proofs.YtclbiihcbfnjmaaGreat.experienceEmpty
open Go.ChangeShapes Go.WideShapes Go.ChangeAt Go.RowKit Go.Deep

theorem own :ownKnob Tryz.prog.godebug=none:=by kernel_rfl
theorem laidOut :laidOutB Tryz.prog=true:=by kernel_rfl
theorem al7 : Tryz.prog.readableRec 29=true:=by kernel_rfl
theorem ltF : 29< Tryz.prog.types.size:=of_decide_eq_true (by kernel_rfl)
theorem afv : Tryz.prog.readableRec 31=true:=by kernel_rfl
theorem ltS : 31< Tryz.prog.types.size:=of_decide_eq_true (by kernel_rfl)
set_option maxRecDepth 100000 in
theorem lifted (os:Os)(started:os.Started)(H:Type)(enc:TypeId×Value->H):
  ReturnsInHanded {} Tryz.checked os 12 .any (Rows.experienceEmptySpec.pre6 enc Tryz.prog Tryz.f12 Rows.experienceEmptyRow.domain false) (Rows.experienceEmptySpec.post enc Tryz.prog Tryz.f12 false true false false):=by
 refine returnsInHanded_of_change (C:= Tryz.checked) own started (by kernel_rfl) Tryz.func12
  (ChangeSpec.witness6 (enc:=enc) (C:= Tryz.checked) false ⟨#[],#[.agg #[.int .i64 0,.int .i64 0,.slice none 0 0,.bool false,.slice none 0 0,.bool false,.slice none 0 0],.agg #[.int .i64 0,.int .i64 0,.slice none 0 0,.bool false,.slice none 0 0,.bool false,.slice none 0 0],.agg aY],[]⟩ 8 (by kernel_rfl) (by kernel_rfl) (by kernel_rfl) (by kernel_rfl)) ?_
 intro W base args ds gs before jB hW hcnd _;clear hcnd
 have hval:∀(j:Nat) t v,Tryz.f12.params[j]?=some t->args[j]?=some v->Value.okWide Tryz.prog W .any base t v:=jB
 have yK:=hW;obtain⟨p,q,zR,hV,rfl,hfz,zS⟩:=hW;have hA:DataW.TrodAll enc Tryz.prog W 0 (fun _=>true) true Tryz.f12.params.toList args.toList ds p:=zR;rw[Tryz.params12] at hA hval;obtain⟨v0,vs0,d0,ds0,p0,q0,hargs,rfl,rfl,h0,r0⟩:=trodAll_cons hA;obtain⟨v1,vs1,d1,ds1,p1,q1,rfl,rfl,rfl,h1,r1⟩:=trodAll_cons r0;obtain⟨v2,vs2,d2,ds2,p2,q2,rfl,rfl,rfl,h2,r2⟩:=trodAll_cons r1;obtain⟨rfl,rfl,rfl⟩:=trodAll_nil r2
 obtain rfl:args=#[v0,v1,v2]:=by cases args;simp_all
 obtain⟨rfl,rfl⟩:=trodVars_none hV;clear zR jB hA r0 r1 r2 hargs;simp only[List.append_nil] at yK;have hlt:=yK.lt;obtain⟨b0,rfl,hb0⟩:=GR (hval 0 31 v0 rfl rfl) h0;obtain⟨b1,rfl,dI⟩:=GR (hval 1 31 v1 rfl rfl) h1;obtain⟨q2,rfl,hq2⟩:=EK (hval 2 29 v2 rfl rfl) h2
 refine(Cr b0 b1 q2 W hb0 dI hq2).mono fun e W' ⟨he,hb⟩=> ?_
 subst he;refine⟨_,rfl,_,_,_,[],p0++(p1++(p2++ [])),[],yK, ?_, ?_,rfl,hb.frame _,fun h=>by cases h⟩
 ·exact trodAll_cons_mk (shut_bool Tryz.underlying4 _) trodAll_mk0
 ·exact trodAll_cons_mk (Below.trod laidOut afv ltS h0 hb fun x hx=>hlt x (by simp[hx])) (trodAll_cons_mk (Below.trod laidOut afv ltS h1 hb fun x hx=>hlt x (by simp[hx])) (trodAll_cons_mk (Below.trod laidOut al7 ltF h2 hb fun x hx=>hlt x (by simp[hx])) (trodAll_mk0)))

theorem holds :Rows.ExperienceEmptySaid:=
 OpenClaim.holds_of_wide 12 Tryz.f12 rfl rfl rfl rfl rfl rfl rfl ⟨rfl,rfl,rfl,rfl,rfl⟩ rfl rfl rfl rfl rfl (by kernel_rfl) Tryz.func12 (by kernel_rfl)
  (of_decide_eq_true (by kernel_rfl)) (by unfold Func.isWrapper;first|(rw[if_pos (by decide+kernel)];kernel_rfl)|(rw[if_neg (by decide+kernel)];exact⟨rfl,rfl⟩))
  (fun os started H enc _=>lifted os started H enc)
end Go.Proofs.YtclbiihcbfnjmaaGreat.experienceEmpty
