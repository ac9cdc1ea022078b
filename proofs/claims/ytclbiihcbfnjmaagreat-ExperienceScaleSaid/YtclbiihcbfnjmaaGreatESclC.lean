/-
  Parts.
-/
import Derived.Test.YtclbiihcbfnjmaaGreatWrapE
import Derived.Test.YtclbiihcbfnjmaaGreatRows
import Derived.Test.YtclbiihcbfnjmaaGreatEScl
namespace Go.Proofs.YtclbiihcbfnjmaaGreat.experienceScale
open Go.ChangeShapes Go.WideShapes Go.ChangeAt Go.RowKit Go.Deep

theorem own :ownKnob Tryz.prog.godebug=none:=by kernel_rfl
theorem laidOut :laidOutB Tryz.prog=true:=by kernel_rfl
theorem EN : Tryz.prog.readableRec 67=true:=by kernel_rfl
theorem ltY : 67< Tryz.prog.types.size:=of_decide_eq_true (by kernel_rfl)
set_option maxRecDepth 100000 in
theorem lifted (os:Os)(started:os.Started)(H:Type)(enc:TypeId×Value->H):
  ReturnsInHanded {} Tryz.checked os 13 .any (Rows.experienceScaleSpec.pre6 enc Tryz.prog Tryz.f13 Rows.experienceScaleRow.domain false) (Rows.experienceScaleSpec.post enc Tryz.prog Tryz.f13 false true false false):=by
 refine returnsInHanded_of_change (C:= Tryz.checked) own started (by kernel_rfl) Tryz.func13
  (ChangeSpec.witness6 (enc:=enc) (C:= Tryz.checked) false ⟨#[],#[.agg #[.int .i64 0,.int .i64 0,.slice none 0 0,.bool false,.slice none 0 0,.bool false,.slice none 0 0,.int .i64 0,.int .i64 0,.slice none 0 0,.bool false,.slice none 0 0,.bool false,.slice none 0 0,.bool false,.slice none 0 0,.bool false,.slice none 0 0,.slice none 0 0]],[]⟩ 8 (by kernel_rfl) (by kernel_rfl) (by kernel_rfl) (by kernel_rfl)) ?_
 intro W base args ds gs before jB hW hcnd _;clear hcnd
 have hval:∀(j:Nat) t v,Tryz.f13.params[j]?=some t->args[j]?=some v->Value.okWide Tryz.prog W .any base t v:=jB
 have yK:=hW;obtain⟨p,q,zR,hV,rfl,hfz,zS⟩:=hW;have hA:DataW.TrodAll enc Tryz.prog W 0 (fun _=>true) true Tryz.f13.params.toList args.toList ds p:=zR;rw[Tryz.params13] at hA hval;obtain⟨v0,vs0,d0,ds0,p0,q0,hargs,rfl,rfl,h0,r0⟩:=trodAll_cons hA;obtain⟨rfl,rfl,rfl⟩:=trodAll_nil r0
 obtain rfl:args=#[v0]:=by cases args;simp_all
 obtain⟨rfl,rfl⟩:=trodVars_none hV;clear zR jB hA r0 hargs;simp only[List.append_nil] at yK;have hlt:=yK.lt;obtain⟨y0,rfl,hy0,hi0,hn0,-⟩:=mY (hval 0 67 v0 rfl rfl) h0
 refine(Jn y0 W hy0 hi0 hn0).mono fun e W' ⟨he,hb⟩=> ?_
 subst he;refine⟨_,rfl,_,_,_,[],p0++ [],[],yK, ?_, ?_,rfl,hb.frame _,fun h=>by cases h⟩
 ·exact trodAll_cons_mk (shut_bool Tryz.underlying4 _) trodAll_mk0
 ·exact trodAll_cons_mk (Below.trod laidOut EN ltY h0 hb fun x hx=>hlt x (by simp[hx])) (trodAll_mk0)

theorem holds :Rows.ExperienceScaleSaid:=
 OpenClaim.holds_of_wide 13 Tryz.f13 rfl rfl rfl rfl rfl rfl rfl ⟨rfl,rfl,rfl,rfl,rfl⟩ rfl rfl rfl rfl rfl (by kernel_rfl) Tryz.func13 (by kernel_rfl)
  (of_decide_eq_true (by kernel_rfl)) (by unfold Func.isWrapper;first|(rw[if_pos (by decide+kernel)];kernel_rfl)|(rw[if_neg (by decide+kernel)];exact⟨rfl,rfl⟩))
  (fun os started H enc _=>lifted os started H enc)
end Go.Proofs.YtclbiihcbfnjmaaGreat.experienceScale
