import Derived.Test.YtlabkganboebeaaGreatQ
import Derived.Test.YtlabkganboebeaaGreatQb
import Derived.Test.YtlabkganboebeaaGreatPa
import Derived.Test.YtlabkganboebeaaGreatRows
set_option linter.all false
/-
PlainParts holds.
-/
namespace Am
open Go Go.RowKit
theorem PlainParts_walk (W : World) (c : Config) (r : Result) (part : Int) (v0 v1 v2 : Value) (h0 : VR W W.heap.size (fun _ => none) (.agg (encConfig c)) v0) (h1 : VR W W.heap.size (fun _ => none) (.agg (encResult r)) v1) (h2 : VR W W.heap.size (fun _ => none) (I part) v2) :
    Calls prog f_law25_PlainParts #[v0, v1, v2] W fun e w' => e = .returned (.bool true) ∧ Below W.heap.size W w' := by
  have hfn : prog.funcs[f_law25_PlainParts]? = some (fnAt prog f_law25_PlainParts) := by kernel_rfl
  have hcode : (fnAt prog f_law25_PlainParts).body = some (codeAt prog f_law25_PlainParts []) := by kernel_rfl
  obtain ⟨d, hd⟩ : ∃ d : Nat, 10 ≤ d := ⟨10, Nat.le_refl _⟩
  have hrun := PlainParts_am (d := d) (h := H.empty) (c := c) (r := r) (part := part) hd St.empty
  have hargs : VRL W W.heap.size (fun _ => none) [.agg (encConfig c), .agg (encResult r), I part] (#[v0, v1, v2] : Array Value).toList := VRL.cons h0 (VRL.cons h1 (VRL.cons h2 VRL.nil))
  exact calls_true prog_ok ws_ok hfn hcode hrun hargs
end Am
namespace Go.Proofs.YtlabkganboebeaaGreat
open Go Go.ChangeShapes Go.WideShapes Go.ChangeAt Go.RowKit Go.Proofs
open Am (arg_struct arg_one)

theorem own : ownKnob Tryz.prog.godebug = none := by kernel_rfl
theorem laidOut : laidOutB Tryz.prog = true := by kernel_rfl

theorem walk (W : World) (c : Am.Config) (r : Am.Result) (part : Int) (v0 v1 v2 : Value) (h0 : Am.VR W W.heap.size (fun _ => none) (.agg (Am.encConfig c)) v0) (h1 : Am.VR W W.heap.size (fun _ => none) (.agg (Am.encResult r)) v1) (h2 : Am.VR W W.heap.size (fun _ => none) (Am.I part) v2) :
    Calls Tryz.prog 6 #[v0, v1, v2] W fun e w' => e = .returned (.bool true) ∧ Below W.heap.size W w' := Am.PlainParts_walk W c r part v0 v1 v2 h0 h1 h2

set_option maxRecDepth 100000 in
theorem lifted (os : Os) (started : os.Started) (H : Type) (enc : TypeId × Value → H) :
    ReturnsInHanded {} Tryz.checked os 6 .any (Rows.plainPartsSpec.pre6 enc Tryz.prog Tryz.f6 Rows.plainPartsRow.domain false) (Rows.plainPartsSpec.post enc Tryz.prog Tryz.f6 false true false false) := by
  refine returnsInHanded_of_change (C := Tryz.checked) own started (by kernel_rfl) Tryz.func6
    (ChangeSpec.witness6 (enc := enc) (C := Tryz.checked) false ⟨#[], #[.agg #[.slice none 0 0, .slice none 0 0, .slice none 0 0, .slice none 0 0, .slice none 0 0, .int .i64 0, .int .i64 0, .int .i64 0, .int .i64 0, .int .i64 0, .int .i64 0, .slice none 0 0, .slice none 0 0], .agg #[.slice none 0 0, .slice none 0 0, .slice none 0 0, .slice none 0 0, .int .i64 0, .int .i64 0, .int .i64 0, .int .i64 0, .slice none 0 0, .slice none 0 0, .slice none 0 0, .int .i64 0], .int .i64 0], []⟩ 8 (by kernel_rfl) (by kernel_rfl) (by kernel_rfl) (by kernel_rfl)) ?_
  intro W base args ds gs before hval0 hW hcnd _
  have hval : ∀ (j : Nat) t v, Tryz.f6.params[j]? = some t → args[j]? = some v → Value.okWide Tryz.prog W .any base t v := hval0
  have hW' := hW
  obtain ⟨p, q, hA0, hV, rfl, hfz, hnd⟩ := hW
  have hA : DataW.TrodAll enc Tryz.prog W 0 (fun _ => true) true Tryz.f6.params.toList args.toList ds p := hA0
  rw [Tryz.params6] at hA hval
  obtain ⟨v0, vs0, d0, ds0, p0, q0, hargs, rfl, rfl, h0, r0⟩ := trodAll_cons hA
  obtain ⟨v1, vs1, d1, ds1, p1, q1, rfl, rfl, rfl, h1, r1⟩ := trodAll_cons r0
  obtain ⟨v2, vs2, d2, ds2, p2, q2, rfl, rfl, rfl, h2, r2⟩ := trodAll_cons r1
  obtain ⟨rfl, rfl, rfl⟩ := trodAll_nil r2
  obtain rfl : args = #[v0, v1, v2] := by cases args; simp_all
  obtain ⟨rfl, rfl⟩ := trodVars_none hV
  have lt : ∀ {t v d ps}, DataW.Trod enc Tryz.prog W 0 (fun _ => true) true t v d ps → ∀ x ∈ ps, x.block < W.heap.size := fun k => by obtain ⟨m, hm⟩ := k; exact DataW.trod_lt m _ _ _ hm
  obtain ⟨c, _, e0⟩ := arg_struct (Am.typ_config (enc' := enc) (w := W)) 12 (by decide) (by kernel_rfl) (by kernel_rfl) (hval 0 _ v0 rfl rfl) h0
  obtain ⟨r, _, e1⟩ := arg_struct (Am.typ_result (enc' := enc) (w := W)) 12 (by decide) (by kernel_rfl) (by kernel_rfl) (hval 1 _ v1 rfl rfl) h1
  obtain ⟨n2, rfl⟩ := okWide_int (k := .i64) (by kernel_rfl) (hval 2 _ v2 rfl rfl)
  obtain ⟨part, _, e2⟩ := arg_one (enc := Am.I) (Am.Typ.int (enc' := enc) (w := W) Am.u_int) 12 (by decide) (by kernel_rfl) rfl h2
  clear hA0 hval0
  refine (walk W c r part v0 v1 _ e0 e1 e2).mono fun e W' ⟨he, bel⟩ => ?_
  subst he
  exact ⟨_, rfl, _, _, _, [], _, [], hW', trodAll_mk1 (shut_bool (by kernel_rfl) _), (trodAll_cons_mk (Below.trod laidOut (by kernel_rfl) (of_decide_eq_true (by kernel_rfl)) h0 bel (lt h0)) (trodAll_cons_mk (Below.trod laidOut (by kernel_rfl) (of_decide_eq_true (by kernel_rfl)) h1 bel (lt h1)) (trodAll_cons_mk (Below.trod laidOut (by kernel_rfl) (of_decide_eq_true (by kernel_rfl)) h2 bel (lt h2)) trodAll_mk0))), rfl, bel.frame _, fun h => by cases h⟩

end Go.Proofs.YtlabkganboebeaaGreat
