/-
  Parts.
-/
import Derived.Test.YtclbiihcbfnjmaaGreatProg
import Derived.Deep.RegionHeld
import Derived.OrdersIn
import Derived.WalkSpells
namespace Go.Proofs.YtclbiihcbfnjmaaGreat
abbrev bH:=@_root_.Go.wp_region_held_drew
abbrev bq:=@_root_.Go.AllReadyH.cons
abbrev aX:=@_root_.Go.wpAnyH_done
abbrev aS:=@_root_.Go.wpAnyIn_take
abbrev bD:=@_root_.Go.AllReadyIn.cons
abbrev cJ:=@_root_.Go.AllReadyIn.nil
abbrev cD:=@_root_.Go.AllReadyH.nil
abbrev cI:=@_root_.Go.wpAnyIn_ready
abbrev cC:=@_root_.Go.wpAnyH_ready
abbrev gS:=@_root_.Bool.false_ne_true
abbrev gE:=@_root_.Go.wpAnyIn_done
abbrev mI:=@_root_.List.getElem?_toArray
abbrev kg:=@_root_.Nat.dvd_mul_right
abbrev nk:=@_root_.Go.DataW.trod_struct
abbrev kR:=@_root_.Int.natAbs_neg
abbrev ow:=@_root_.Nat.dvd_mul_left
abbrev mN:=@_root_.Rat.num_nonneg
abbrev mF:=@_root_.Go.run_loadAt_mid
abbrev kL:=@_root_.Go.DataW.trod_int
abbrev oN:=@_root_.decide_eq_true_iff
end Go.Proofs.YtclbiihcbfnjmaaGreat
namespace Go.Proofs.YtclbiihcbfnjmaaGreat

theorem PL :(∀(a:Act) (d:Tmp) (v:Value),a.put (some d) v={a with tmps:=a.tmps.setIfInBounds d v})/\(∀(a:Act) (v:Value),a.put none v=a)/\
  (∀(l:List Value) (i:Nat) (v:Value),l.toArray.setIfInBounds i v=(l.set i v).toArray)/\(∀(l:List Bool) (i:Nat) (v:Bool),l.toArray.setIfInBounds i v=(l.set i v).toArray)/\
  (∀(x:Value) (l:List Value) (v:Value),(x::l).set 0 v=v::l)/\(∀(x:Value) (l:List Value) (i:Nat) (v:Value),(x::l).set (i+1) v=x::l.set i v)/\
  (∀(x:Bool) (l:List Bool) (v:Bool),(x::l).set 0 v=v::l)/\(∀(x:Bool) (l:List Bool) (i:Nat) (v:Bool),(x::l).set (i+1) v=x::l.set i v)/\
  (∀(l:List Oper) (i:Nat) (h:i<l.toArray.size),l.toArray[i]=l[i]'(by simpa using h))/\(∀(x:Oper) (l:List Oper) (i:Nat) (h:i+1<(x::l).length),(x::l)[i+1]=l[i]'(by simpa using h))/\
  (∀(x:Oper) (l:List Oper) (h:0<(x::l).length),(x::l)[0]=x):=
 ⟨fun _ _ _=>rfl,fun _ _=>rfl,fun _ _ _=>List.setIfInBounds_toArray ..,fun _ _ _=>List.setIfInBounds_toArray ..,fun _ _ _=>rfl,fun _ _ _ _=>rfl,fun _ _ _=>rfl,fun _ _ _ _=>rfl,fun _ _ _=>rfl,fun _ _ _ _=>rfl,fun _ _ _=>rfl⟩
section
variable {P:Program} {ops:Array Oper} {Q:Exit->Act->World->Prop} {md:Region.Mode} {S:World->Prop} {oi:Oper} {v:Value} {fuel:Nat} {listed l':Array Bool} {a a':Act} {w:World}
theorem tk (i:Nat)(h:wpAnyH P md ops Q S fuel l' a' w)(hi:ops[i]?=some oi:=by exact rfl)
  (hs:Region.noSelect ops=true:=by kernel_rfl) (hf:Region.free md ops listed i=true:=by kernel_rfl) (hr:(Region.ready md ops listed).contains i=true:=by kernel_rfl)
  (hQ:∀c a w,Q (.panic c) (a.put oi.dst v) w->Q (.panic c) a w:=by exact fun _ _ _ h=>h)
  (hw:Region.wanted oi (yielded ops a.tmps)=true:=by rfl)
  (hy:∀w,S w->(execOp a.eval oi).run P w= .ok (.value v) w:=by intro w aG;(try dsimp only at aG);first|(go_simp;done)|(go_simp;with_reducible rfl))
  (hS:S w:=by assumption) (hl:listed.setIfInBounds i true=l':=by(try simp only[PL]);try rfl) (ha:a.put oi.dst v=a':=by(try simp only[PL]);try rfl):wpAnyH P md ops Q S (fuel+1) listed a w:=wpAnyH_take hi hs hf hr hQ (Or.inl ⟨hw,hy⟩) hS (hl▸ha▸h)
theorem tu (i:Nat)(h:wpAnyH P md ops Q S fuel l' a' w)(hi:ops[i]?=some oi:=by exact rfl)
  (hs:Region.noSelect ops=true:=by kernel_rfl) (hf:Region.free md ops listed i=true:=by kernel_rfl) (hr:(Region.ready md ops listed).contains i=true:=by kernel_rfl)
  (hQ:∀c a w,Q (.panic c) (a.put oi.dst undef) w->Q (.panic c) a w:=by exact fun _ _ _ h=>h)
  (hw:Region.wanted oi (yielded ops a.tmps)=false:=by rfl)
  (hS:S w:=by assumption) (hl:listed.setIfInBounds i true=l':=by(try simp only[PL]);try rfl) (ha:a.put oi.dst undef=a':=by(try simp only[PL]);try rfl):wpAnyH P md ops Q S (fuel+1) listed a w:=wpAnyH_take hi hs hf hr hQ (Or.inr ⟨hw,rfl⟩) hS (hl▸ha▸h)
theorem r1 (i:Nat)(h:∀K':Act->World->Prop,Shut (∀a w,S w->(S w->wpAnyH P md ops Q S fuel (listed.setIfInBounds i true) a w)->K' a w)->if Region.wanted oi (yielded ops a.tmps)=true then Oper.wp P oi a w K' Q else K' (a.put oi.dst undef) w)
  (hr:Region.ready md ops listed=[i]:=by kernel_rfl) (hi:ops[i]?=some oi:=by exact rfl):wpAnyH P md ops Q S (fuel+1) listed a w:=
 cC hr (by simp) (bq hi h cD)
end
end Go.Proofs.YtclbiihcbfnjmaaGreat
