import Derived.Test.YtlabkganboebeaaGreatAmD
import Derived.Test.YtlabkganboebeaaGreatRa
import Derived.Test.YtlabkganboebeaaGreatAmC
set_option linter.all false
/-
Events: alike, of a partition.
-/
namespace Am
open Go


theorem At.event {ls : List (List Blk)} {a : V} {e : Event} {h : H} (x : At ls a (encEvent e)) (s : St ls h) :
    (∀ j, fA j a = some (addA a j)) ∧ ld (addA a 0) h = some (I e.part) ∧ ld (addA a 1) h = some (I e.win) ∧ ld (addA a 2) h = some (I e.proc) ∧ ld (addA a 3) h = some (I e.call) ∧ ld (addA a 4) h = some (I e.code) ∧ ld (addA a 5) h = some (I e.value) ∧ ldA 6 a h = some (.agg (encEvent e)) :=
  ⟨x.fld, x.rd1 s 0 _ rfl, x.rd1 s 1 _ rfl, x.rd1 s 2 _ rfl, x.rd1 s 3 _ rfl, x.rd1 s 4 _ rfl, x.rd1 s 5 _ rfl, x.whole s 6 rfl⟩

theorem ref24_Same_spec {d : Nat} (hd : 1 ≤ d) {ls : List (List Blk)} {h : H} {v w : V} {l m : List Event} (s : St ls h) (hv : RdT ls 6 encEvent v l) (hw : RdT ls 6 encEvent w m) (hl : l.length < 9223372036854775808)
    {Q : Post} (k : Q (.bool (decide (l = m))) h) : callW prog ws d f_ref24_Same [v, w] h Q := by
  obtain ⟨d, rfl⟩ : ∃ e, d = e + 1 := ⟨d - 1, by omega⟩
  rw [u_ref24_Same]
  simp -failIfUnchanged only [bindP_some_eq, bindP_none_eq, guardP_true_eq, asB_eq, bcase_true, bcase_false, allocK_some, runD_nil, guardT_bool, extV_tup, map_some_eq, Option.map_some, Option.map_none, fV_agg, fVA_agg, lenS_sl, lenS_slR, lenS_slN, lenStr_str, cvI_int, pickV_bool, nilCk_ptr, nilCk_ptrR, nilCk_func, nilCk_yield, nilCk_iface, nilCk_slR, nilCk_sl, nilCk_int, unV_not, unV_neg, binK_add, binK_sub, binK_mul, binK_eql, binK_neq, binK_lss, binK_leq, binK_gtr, binK_geq, chk_same, cond_true, cond_false, List.getElem?_cons_zero, List.getElem?_cons_succ, List.length_cons, List.length_nil, Nat.zero_add, Nat.add_zero, callVal_func, List.nil_append, List.append_nil, sem_call, hv.len, hw.len]
  have hQf : l ≠ m → Q (.bool false) h := fun e => by rw [decide_eq_false e] at k; exact k
  refine bcase_dec (fun hne => hQf fun e => hne (by rw [e])) fun he => ?_
  have he : l.length = m.length := by omega
  unfold J_ref24_Same4
  suffices key : ∀ (n i : Nat), i ≤ l.length → l.length - i < n → (∀ j, j < i → l[j]? = m[j]?) → L_ref24_Same5 d Q n v w (.bool false) (I i) [] h from
    key fuel 0 (Nat.zero_le _) (fuel_lt (by omega)) (fun j hj => by omega)
  intro n
  induction n with
  | zero => intro i _ h2; omega
  | succ n ih =>
    intro i h1 h2 h3
    rw [L_ref24_Same5_succ]
    unfold S_ref24_Same5
    simp -failIfUnchanged only [bindP_some_eq, bindP_none_eq, guardP_true_eq, asB_eq, bcase_true, bcase_false, allocK_some, runD_nil, guardT_bool, extV_tup, map_some_eq, Option.map_some, Option.map_none, fV_agg, fVA_agg, lenS_sl, lenS_slR, lenS_slN, lenStr_str, cvI_int, pickV_bool, nilCk_ptr, nilCk_ptrR, nilCk_func, nilCk_yield, nilCk_iface, nilCk_slR, nilCk_sl, nilCk_int, unV_not, unV_neg, binK_add, binK_sub, binK_mul, binK_eql, binK_neq, binK_lss, binK_leq, binK_gtr, binK_geq, chk_same, cond_true, cond_false, List.getElem?_cons_zero, List.getElem?_cons_succ, List.length_cons, List.length_nil, Nat.zero_add, Nat.add_zero, callVal_func, List.nil_append, List.append_nil, sem_call, hv.len]
    refine bcase_dec (fun hi => ?_) fun hi => ?_
    · have hi : i < l.length := by omega
      obtain ⟨a, ha⟩ : ∃ a, l[i]? = some a := ⟨_, List.getElem?_eq_getElem hi⟩
      obtain ⟨b, hb⟩ : ∃ b, m[i]? = some b := ⟨_, List.getElem?_eq_getElem (by omega)⟩
      obtain ⟨fa, a0, a1, a2, a3, a4, a5, _⟩ := (hv.el i a ha).event s
      obtain ⟨fb, b0, b1, b2, b3, b4, b5, _⟩ := (hw.el i b hb).event s
      have hne : a ≠ b → l ≠ m := fun e e' => by rw [e'] at ha; rw [ha] at hb; exact e (by injection hb)
      have hJ : ∀ x, (x = true → a ≠ b) → (x = false → a = b) → J_ref24_Same19 d Q (L_ref24_Same5 d Q n) v w (.bool false) (I i) (.bool x) [] h := by
        intro x hx hx'
        unfold J_ref24_Same19
        simp -failIfUnchanged only [bindP_some_eq, bindP_none_eq, guardP_true_eq, asB_eq, bcase_true, bcase_false, allocK_some, runD_nil, guardT_bool, extV_tup, map_some_eq, Option.map_some, Option.map_none, fV_agg, fVA_agg, lenS_sl, lenS_slR, lenS_slN, lenStr_str, cvI_int, pickV_bool, nilCk_ptr, nilCk_ptrR, nilCk_func, nilCk_yield, nilCk_iface, nilCk_slR, nilCk_sl, nilCk_int, unV_not, unV_neg, binK_add, binK_sub, binK_mul, binK_eql, binK_neq, binK_lss, binK_leq, binK_gtr, binK_geq, chk_same, cond_true, cond_false, List.getElem?_cons_zero, List.getElem?_cons_succ, List.length_cons, List.length_nil, Nat.zero_add, Nat.add_zero, callVal_func, List.nil_append, List.append_nil, sem_call]
        refine bcase_of (fun e => hQf (hne (hx e))) fun e => ?_
        unfold J_ref24_Same21
        simp -failIfUnchanged only [bindP_some_eq, bindP_none_eq, guardP_true_eq, asB_eq, bcase_true, bcase_false, allocK_some, runD_nil, guardT_bool, extV_tup, map_some_eq, Option.map_some, Option.map_none, fV_agg, fVA_agg, lenS_sl, lenS_slR, lenS_slN, lenStr_str, cvI_int, pickV_bool, nilCk_ptr, nilCk_ptrR, nilCk_func, nilCk_yield, nilCk_iface, nilCk_slR, nilCk_sl, nilCk_int, unV_not, unV_neg, binK_add, binK_sub, binK_mul, binK_eql, binK_neq, binK_lss, binK_leq, binK_gtr, binK_geq, chk_same, cond_true, cond_false, List.getElem?_cons_zero, List.getElem?_cons_succ, List.length_cons, List.length_nil, Nat.zero_add, Nat.add_zero, callVal_func, List.nil_append, List.append_nil, sem_call]
        rw [wrap64 (by omega) (by omega)]
        refine ih (i + 1) (by omega) (by omega) fun j hj => ?_
        rcases Nat.lt_or_ge j i with x | x
        · exact h3 j x
        · have : j = i := by omega
          rw [this, ha, hb, hx' e]
      unfold J_ref24_Same10
      simp -failIfUnchanged only [bindP_some_eq, bindP_none_eq, guardP_true_eq, asB_eq, bcase_true, bcase_false, allocK_some, runD_nil, guardT_bool, extV_tup, map_some_eq, Option.map_some, Option.map_none, fV_agg, fVA_agg, lenS_sl, lenS_slR, lenS_slN, lenStr_str, cvI_int, pickV_bool, nilCk_ptr, nilCk_ptrR, nilCk_func, nilCk_yield, nilCk_iface, nilCk_slR, nilCk_sl, nilCk_int, unV_not, unV_neg, binK_add, binK_sub, binK_mul, binK_eql, binK_neq, binK_lss, binK_leq, binK_gtr, binK_geq, chk_same, cond_true, cond_false, List.getElem?_cons_zero, List.getElem?_cons_succ, List.length_cons, List.length_nil, Nat.zero_add, Nat.add_zero, callVal_func, List.nil_append, List.append_nil, sem_call, hv.ix i hi, hw.ix i (by omega), fa, fb, a0, a1, a2, a3, a4, a5, b0, b1, b2, b3, b4, b5]
      refine bcase_dec (fun e => hJ true (fun _ x => e (by rw [x])) (fun x => by cases x)) fun e0 => ?_
      refine bcase_dec (fun e => hJ true (fun _ x => e (by rw [x])) (fun x => by cases x)) fun e1 => ?_
      refine bcase_dec (fun e => hJ true (fun _ x => e (by rw [x])) (fun x => by cases x)) fun e2 => ?_
      refine bcase_dec (fun e => hJ true (fun _ x => e (by rw [x])) (fun x => by cases x)) fun e3 => ?_
      refine bcase_dec (fun e => hJ true (fun _ x => e (by rw [x])) (fun x => by cases x)) fun e4 => ?_
      refine hJ _ (fun x => ?_) (fun x => ?_)
      · intro y; rw [y] at x; simp at x
      · simp at x e0 e1 e2 e3 e4
        cases a; cases b; simp_all
    · unfold J_ref24_Same6
      simp -failIfUnchanged only [bindP_some_eq, bindP_none_eq, guardP_true_eq, asB_eq, bcase_true, bcase_false, allocK_some, runD_nil, guardT_bool, extV_tup, map_some_eq, Option.map_some, Option.map_none, fV_agg, fVA_agg, lenS_sl, lenS_slR, lenS_slN, lenStr_str, cvI_int, pickV_bool, nilCk_ptr, nilCk_ptrR, nilCk_func, nilCk_yield, nilCk_iface, nilCk_slR, nilCk_sl, nilCk_int, unV_not, unV_neg, binK_add, binK_sub, binK_mul, binK_eql, binK_neq, binK_lss, binK_leq, binK_gtr, binK_geq, chk_same, cond_true, cond_false, List.getElem?_cons_zero, List.getElem?_cons_succ, List.length_cons, List.length_nil, Nat.zero_add, Nat.add_zero, callVal_func, List.nil_append, List.append_nil, sem_call]
      have : l = m := by
        apply List.ext_getElem?
        intro j
        rcases Nat.lt_or_ge j i with x | x
        · exact h3 j x
        · rw [List.getElem?_eq_none (by omega), List.getElem?_eq_none (by omega)]
      rw [decide_eq_true this] at k
      exact k
end Am

/-
A partition's events.
-/
namespace Am
open Go

theorem encEvent_len (e : Event) : (encEvent e).length = 6 := rfl

theorem plain_Of_spec {d : Nat} (hd : 1 ≤ d) {ls : List (List Blk)} {h : H} {v : V} {l : List Event} {part : Int} (s : St ls h) (hv : RdT ls 6 encEvent v l) (hl : l.length ≤ most)
    {Q : Post} (k : ∀ v' row h', AccT 6 encEvent v' (l.filter fun e => decide (e.part = part)) row → St (row :: ls) h' → Q v' h') : callW prog ws d f_plain_Of [v, I part] h Q := by
  obtain ⟨d, rfl⟩ : ∃ e, d = e + 1 := ⟨d - 1, by omega⟩
  rw [u_plain_Of]
  rw [most_eq] at hl
  simp -failIfUnchanged only [bindP_some_eq, bindP_none_eq, guardP_true_eq, asB_eq, bcase_true, bcase_false, allocK_some, runD_nil, guardT_bool, extV_tup, map_some_eq, Option.map_some, Option.map_none, fV_agg, fVA_agg, lenS_sl, lenS_slR, lenS_slN, lenStr_str, cvI_int, pickV_bool, nilCk_ptr, nilCk_ptrR, nilCk_func, nilCk_yield, nilCk_iface, nilCk_slR, nilCk_sl, nilCk_int, unV_not, unV_neg, binK_add, binK_sub, binK_mul, binK_eql, binK_neq, binK_lss, binK_leq, binK_gtr, binK_geq, chk_same, cond_true, cond_false, List.getElem?_cons_zero, List.getElem?_cons_succ, List.length_cons, List.length_nil, Nat.zero_add, Nat.add_zero, callVal_func, List.nil_append, List.append_nil, sem_call, hv.len]
  suffices key : ∀ (n i : Nat) (w : V) (row : List Blk) (h : H), i ≤ l.length → l.length - i < n → AccT 6 encEvent w ((l.take i).filter fun e => decide (e.part = part)) row → St (row :: ls) h →
      L_plain_Of1 d Q n (I part) .slN w v (I l.length) (I i) [] h from
    key fuel 0 _ [] h (Nat.zero_le _) (fuel_lt (by omega)) (AccT.nil encEvent_len) (St.nilR.2 s)
  intro n
  induction n with
  | zero => intro i _ _ _ _ h2; omega
  | succ n ih =>
    intro i w row h h1 h2 ha s
    rw [L_plain_Of1_succ]
    unfold S_plain_Of1
    simp -failIfUnchanged only [bindP_some_eq, bindP_none_eq, guardP_true_eq, asB_eq, bcase_true, bcase_false, allocK_some, runD_nil, guardT_bool, extV_tup, map_some_eq, Option.map_some, Option.map_none, fV_agg, fVA_agg, lenS_sl, lenS_slR, lenS_slN, lenStr_str, cvI_int, pickV_bool, nilCk_ptr, nilCk_ptrR, nilCk_func, nilCk_yield, nilCk_iface, nilCk_slR, nilCk_sl, nilCk_int, unV_not, unV_neg, binK_add, binK_sub, binK_mul, binK_eql, binK_neq, binK_lss, binK_leq, binK_gtr, binK_geq, chk_same, cond_true, cond_false, List.getElem?_cons_zero, List.getElem?_cons_succ, List.length_cons, List.length_nil, Nat.zero_add, Nat.add_zero, callVal_func, List.nil_append, List.append_nil, sem_call]
    refine bcase_dec (fun hi => ?_) fun hi => ?_
    · have hi : i < l.length := by omega
      obtain ⟨a, he⟩ : ∃ a, l[i]? = some a := ⟨_, List.getElem?_eq_getElem hi⟩
      have hv' := hv.weaken (ls' := row :: ls) (fun h s => s.tail)
      obtain ⟨fa, a0, a1, a2, a3, a4, a5, aw⟩ := (hv'.el i a he).event s
      have hlen : ((l.take i).filter fun e => decide (e.part = part)).length ≤ i := Nat.le_trans (List.length_filter_le _ _) (by simp; omega)
      have hnext : ∀ (w : V) (row : List Blk) (h : H), AccT 6 encEvent w ((l.take (i + 1)).filter fun e => decide (e.part = part)) row → St (row :: ls) h →
          J_plain_Of16 d Q (L_plain_Of1 d Q n) (I part) .slN w v (I l.length) (I i) [] h := by
        intro w row h ha s
        unfold J_plain_Of16
        simp -failIfUnchanged only [bindP_some_eq, bindP_none_eq, guardP_true_eq, asB_eq, bcase_true, bcase_false, allocK_some, runD_nil, guardT_bool, extV_tup, map_some_eq, Option.map_some, Option.map_none, fV_agg, fVA_agg, lenS_sl, lenS_slR, lenS_slN, lenStr_str, cvI_int, pickV_bool, nilCk_ptr, nilCk_ptrR, nilCk_func, nilCk_yield, nilCk_iface, nilCk_slR, nilCk_sl, nilCk_int, unV_not, unV_neg, binK_add, binK_sub, binK_mul, binK_eql, binK_neq, binK_lss, binK_leq, binK_gtr, binK_geq, chk_same, cond_true, cond_false, List.getElem?_cons_zero, List.getElem?_cons_succ, List.length_cons, List.length_nil, Nat.zero_add, Nat.add_zero, callVal_func, List.nil_append, List.append_nil, sem_call]
        rw [wrap64 (by omega) (by omega)]
        exact ih (i + 1) w row h (by omega) (by omega) ha s
      unfold J_plain_Of5
      simp -failIfUnchanged only [bindP_some_eq, bindP_none_eq, guardP_true_eq, asB_eq, bcase_true, bcase_false, allocK_some, runD_nil, guardT_bool, extV_tup, map_some_eq, Option.map_some, Option.map_none, fV_agg, fVA_agg, lenS_sl, lenS_slR, lenS_slN, lenStr_str, cvI_int, pickV_bool, nilCk_ptr, nilCk_ptrR, nilCk_func, nilCk_yield, nilCk_iface, nilCk_slR, nilCk_sl, nilCk_int, unV_not, unV_neg, binK_add, binK_sub, binK_mul, binK_eql, binK_neq, binK_lss, binK_leq, binK_gtr, binK_geq, chk_same, cond_true, cond_false, List.getElem?_cons_zero, List.getElem?_cons_succ, List.length_cons, List.length_nil, Nat.zero_add, Nat.add_zero, callVal_func, List.nil_append, List.append_nil, sem_call, hv.ix i hi, aw]
      refine local_at s rfl rfl fun b h1 s1 => ?_
      obtain ⟨fb, b0, _, _, _, _, _, bw⟩ := (At.row0 (row :: ls) b (encEvent a) 6 false).event s1
      simp -failIfUnchanged only [bindP_some_eq, bindP_none_eq, guardP_true_eq, asB_eq, bcase_true, bcase_false, allocK_some, runD_nil, guardT_bool, extV_tup, map_some_eq, Option.map_some, Option.map_none, fV_agg, fVA_agg, lenS_sl, lenS_slR, lenS_slN, lenStr_str, cvI_int, pickV_bool, nilCk_ptr, nilCk_ptrR, nilCk_func, nilCk_yield, nilCk_iface, nilCk_slR, nilCk_sl, nilCk_int, unV_not, unV_neg, binK_add, binK_sub, binK_mul, binK_eql, binK_neq, binK_lss, binK_leq, binK_gtr, binK_geq, chk_same, cond_true, cond_false, List.getElem?_cons_zero, List.getElem?_cons_succ, List.length_cons, List.length_nil, Nat.zero_add, Nat.add_zero, callVal_func, List.nil_append, List.append_nil, sem_call, fb, b0, bw]
      refine bcase_dec (fun hp => ?_) fun hp => ?_
      · refine app1T a (ls := [(b, .cells (encEvent a) 6 false)] :: ls) ha s1.swap rfl (by decide) rfl (by rw [most_eq]; omega) fun v' row' h' a' s' => hnext v' row' h' ?_ s'.drop1
        rw [take_succ_filter _ _ _ _ he]
        simpa [hp] using a'
      · refine hnext w row h1 ?_ s1.tail
        rw [take_succ_filter _ _ _ _ he]
        simpa [hp] using ha
    · unfold J_plain_Of2
      simp -failIfUnchanged only [bindP_some_eq, bindP_none_eq, guardP_true_eq, asB_eq, bcase_true, bcase_false, allocK_some, runD_nil, guardT_bool, extV_tup, map_some_eq, Option.map_some, Option.map_none, fV_agg, fVA_agg, lenS_sl, lenS_slR, lenS_slN, lenStr_str, cvI_int, pickV_bool, nilCk_ptr, nilCk_ptrR, nilCk_func, nilCk_yield, nilCk_iface, nilCk_slR, nilCk_sl, nilCk_int, unV_not, unV_neg, binK_add, binK_sub, binK_mul, binK_eql, binK_neq, binK_lss, binK_leq, binK_gtr, binK_geq, chk_same, cond_true, cond_false, List.getElem?_cons_zero, List.getElem?_cons_succ, List.length_cons, List.length_nil, Nat.zero_add, Nat.add_zero, callVal_func, List.nil_append, List.append_nil, sem_call]
      have : i = l.length := by omega
      subst this
      rw [List.take_length] at ha
      exact k w row h ha s

theorem ref24_Of_spec {d : Nat} (hd : 1 ≤ d) {ls : List (List Blk)} {h : H} {v : V} {l : List Event} {part : Int} (s : St ls h) (hv : RdT ls 6 encEvent v l) (hl : l.length ≤ most)
    {Q : Post} (k : ∀ v' row h', AccT 6 encEvent v' (l.filter fun e => decide (e.part = part)) row → St (row :: ls) h' → Q v' h') : callW prog ws d f_ref24_Of [v, I part] h Q := by
  obtain ⟨d, rfl⟩ : ∃ e, d = e + 1 := ⟨d - 1, by omega⟩
  rw [u_ref24_Of]
  rw [most_eq] at hl
  suffices key : ∀ (n i : Nat) (w : V) (row : List Blk) (h : H), i ≤ l.length → l.length - i < n → AccT 6 encEvent w ((l.take i).filter fun e => decide (e.part = part)) row → St (row :: ls) h →
      L_ref24_Of0 d Q n v (I part) .slN w (I i) [] h from
    key fuel 0 _ [] h (Nat.zero_le _) (fuel_lt (by omega)) (AccT.nil encEvent_len) (St.nilR.2 s)
  intro n
  induction n with
  | zero => intro i _ _ _ _ h2; omega
  | succ n ih =>
    intro i w row h h1 h2 ha s
    rw [L_ref24_Of0_succ]
    unfold S_ref24_Of0
    simp -failIfUnchanged only [bindP_some_eq, bindP_none_eq, guardP_true_eq, asB_eq, bcase_true, bcase_false, allocK_some, runD_nil, guardT_bool, extV_tup, map_some_eq, Option.map_some, Option.map_none, fV_agg, fVA_agg, lenS_sl, lenS_slR, lenS_slN, lenStr_str, cvI_int, pickV_bool, nilCk_ptr, nilCk_ptrR, nilCk_func, nilCk_yield, nilCk_iface, nilCk_slR, nilCk_sl, nilCk_int, unV_not, unV_neg, binK_add, binK_sub, binK_mul, binK_eql, binK_neq, binK_lss, binK_leq, binK_gtr, binK_geq, chk_same, cond_true, cond_false, List.getElem?_cons_zero, List.getElem?_cons_succ, List.length_cons, List.length_nil, Nat.zero_add, Nat.add_zero, callVal_func, List.nil_append, List.append_nil, sem_call, hv.len]
    refine bcase_dec (fun hi => ?_) fun hi => ?_
    · have hi : i < l.length := by omega
      obtain ⟨a, he⟩ : ∃ a, l[i]? = some a := ⟨_, List.getElem?_eq_getElem hi⟩
      have hv' := hv.weaken (ls' := row :: ls) (fun h s => s.tail)
      obtain ⟨fa, a0, a1, a2, a3, a4, a5, aw⟩ := (hv'.el i a he).event s
      have hlen : ((l.take i).filter fun e => decide (e.part = part)).length ≤ i := Nat.le_trans (List.length_filter_le _ _) (by simp; omega)
      have hnext : ∀ (w : V) (row : List Blk) (h : H), AccT 6 encEvent w ((l.take (i + 1)).filter fun e => decide (e.part = part)) row → St (row :: ls) h →
          J_ref24_Of15 d Q (L_ref24_Of0 d Q n) v (I part) .slN w (I i) [] h := by
        intro w row h ha s
        unfold J_ref24_Of15
        simp -failIfUnchanged only [bindP_some_eq, bindP_none_eq, guardP_true_eq, asB_eq, bcase_true, bcase_false, allocK_some, runD_nil, guardT_bool, extV_tup, map_some_eq, Option.map_some, Option.map_none, fV_agg, fVA_agg, lenS_sl, lenS_slR, lenS_slN, lenStr_str, cvI_int, pickV_bool, nilCk_ptr, nilCk_ptrR, nilCk_func, nilCk_yield, nilCk_iface, nilCk_slR, nilCk_sl, nilCk_int, unV_not, unV_neg, binK_add, binK_sub, binK_mul, binK_eql, binK_neq, binK_lss, binK_leq, binK_gtr, binK_geq, chk_same, cond_true, cond_false, List.getElem?_cons_zero, List.getElem?_cons_succ, List.length_cons, List.length_nil, Nat.zero_add, Nat.add_zero, callVal_func, List.nil_append, List.append_nil, sem_call]
        rw [wrap64 (by omega) (by omega)]
        exact ih (i + 1) w row h (by omega) (by omega) ha s
      unfold J_ref24_Of5
      simp -failIfUnchanged only [bindP_some_eq, bindP_none_eq, guardP_true_eq, asB_eq, bcase_true, bcase_false, allocK_some, runD_nil, guardT_bool, extV_tup, map_some_eq, Option.map_some, Option.map_none, fV_agg, fVA_agg, lenS_sl, lenS_slR, lenS_slN, lenStr_str, cvI_int, pickV_bool, nilCk_ptr, nilCk_ptrR, nilCk_func, nilCk_yield, nilCk_iface, nilCk_slR, nilCk_sl, nilCk_int, unV_not, unV_neg, binK_add, binK_sub, binK_mul, binK_eql, binK_neq, binK_lss, binK_leq, binK_gtr, binK_geq, chk_same, cond_true, cond_false, List.getElem?_cons_zero, List.getElem?_cons_succ, List.length_cons, List.length_nil, Nat.zero_add, Nat.add_zero, callVal_func, List.nil_append, List.append_nil, sem_call, hv.ix i hi, fa, a0, aw]
      refine bcase_dec (fun hp => ?_) fun hp => ?_
      · refine app1T a ha s rfl (by decide) rfl (by rw [most_eq]; omega) fun v' row' h' a' s' => hnext v' row' h' ?_ s'
        rw [take_succ_filter _ _ _ _ he]
        simpa [hp] using a'
      · refine hnext w row h ?_ s
        rw [take_succ_filter _ _ _ _ he]
        simpa [hp] using ha
    · unfold J_ref24_Of1
      simp -failIfUnchanged only [bindP_some_eq, bindP_none_eq, guardP_true_eq, asB_eq, bcase_true, bcase_false, allocK_some, runD_nil, guardT_bool, extV_tup, map_some_eq, Option.map_some, Option.map_none, fV_agg, fVA_agg, lenS_sl, lenS_slR, lenS_slN, lenStr_str, cvI_int, pickV_bool, nilCk_ptr, nilCk_ptrR, nilCk_func, nilCk_yield, nilCk_iface, nilCk_slR, nilCk_sl, nilCk_int, unV_not, unV_neg, binK_add, binK_sub, binK_mul, binK_eql, binK_neq, binK_lss, binK_leq, binK_gtr, binK_geq, chk_same, cond_true, cond_false, List.getElem?_cons_zero, List.getElem?_cons_succ, List.length_cons, List.length_nil, Nat.zero_add, Nat.add_zero, callVal_func, List.nil_append, List.append_nil, sem_call]
      have : i = l.length := by omega
      subst this
      rw [List.take_length] at ha
      exact k w row h ha s
end Am

/-
Messages: copies, alike.
-/
namespace Am
open Go

/-! ### Texts -/
theorem toList_loop (b : ByteArray) : ∀ (n i : Nat) (r : List UInt8), b.data.size - i = n → ByteArray.toList.loop b i r = r.reverse ++ b.data.toList.drop i := by
  intro n
  induction n with
  | zero =>
    intro i r h
    unfold ByteArray.toList.loop
    have hn : ¬ i < b.size := by show ¬ i < b.data.size; omega
    rw [if_neg hn, List.drop_eq_nil_of_le (by rw [Array.length_toList]; omega), List.append_nil]
  | succ n ih =>
    intro i r h
    unfold ByteArray.toList.loop
    have hi : i < b.data.size := by omega
    have hi' : i < b.size := hi
    rw [if_pos hi', ih (i + 1) _ (by omega)]
    have h1 : i < b.data.toList.length := by rw [Array.length_toList]; exact hi
    rw [List.drop_eq_getElem_cons h1, List.reverse_cons, List.append_assoc]
    congr 1
    simp only [List.singleton_append, List.cons.injEq, and_true]
    show b.data[i]! = _
    rw [getElem!_pos b.data i hi]
    simp
theorem toList_data (b : ByteArray) : b.toList = b.data.toList := by
  unfold ByteArray.toList
  rw [toList_loop b b.data.size 0 [] (by omega), List.reverse_nil, List.nil_append, List.drop_zero]
theorem bytes_eq (a b : ByteArray) : (a.toList == b.toList) = decide (a.data.toList = b.data.toList) := by
  rw [toList_data, toList_data]
  exact Bool.beq_eq_decide_eq _ _
def str (l : List UInt8) : V := .str ⟨l.toArray⟩
theorem binK_str_neq (t : TypeId) (cx cy : Bool) (a b : List UInt8) : binK prog .neq t cx cy (str a) (str b) = some (.bool (decide (a ≠ b))) := by
  show some (V.bool !(ByteArray.toList ⟨a.toArray⟩ == ByteArray.toList ⟨b.toArray⟩)) = _
  rw [bytes_eq]
  simp
theorem binK_str_eql (t : TypeId) (cx cy : Bool) (a b : List UInt8) : binK prog .eql t cx cy (str a) (str b) = some (.bool (decide (a = b))) := by
  show some (V.bool (ByteArray.toList ⟨a.toArray⟩ == ByteArray.toList ⟨b.toArray⟩)) = _
  rw [bytes_eq]
theorem encByte_len (b : UInt8) : (encByte b).length = 1 := rfl
theorem encInt_len (n : Int) : (encInt n).length = 1 := rfl
theorem bytesOf_go : ∀ l : List UInt8, convV.go (l.flatMap encByte) = some l
  | [] => rfl
  | b :: l => by
    show (match convV.go (l.flatMap encByte) with | some l => some (UInt8.ofNat (b.toNat : Int).toNat :: l) | none => none) = _
    rw [bytesOf_go l]
    simp
theorem conv_bytes {ls : List (List Blk)} {h : H} {v : V} {l : List UInt8} (s : St ls h) (hv : RdT ls 1 encByte v l) : convV prog T_S_uint8 T_string v h = some (str l) := by
  have hs := hv.rd.src h s l.length (Nat.le_refl _)
  have hl := hv.rd.srcl
  rw [List.take_of_length_le (by rw [flatMap_len encByte_len]; exact Nat.le_refl _)] at hs
  cases v with
  | slN =>
    have : l = [] := by
      have := hv.rd.srcl
      simp [srcLen] at this
      exact List.length_eq_zero_iff.1 this.symm
    subst this
    have : convV prog T_S_uint8 T_string .slN h = some (.str .empty) := by kernel_rfl
    rw [this]; rfl
  | sl b off len cap es =>
    have hc : convV prog T_S_uint8 T_string (.sl b off len cap es) h = match ldN h b off len with | some cs => convV.bytesOf cs | none => none := by kernel_rfl
    rw [hc]
    simp only [srcLen, Option.some.injEq] at hl
    subst hl
    have e : es = 1 := by
      have hs : (bif Nat.beq 1 es then ldN h b off (l.length * 1) else none) = some (l.flatMap encByte) := hs
      cases hb : Nat.beq 1 es with
      | true => exact (Nat.eq_of_beq_eq_true hb).symm
      | false => rw [hb] at hs; cases hs
    subst e
    have hs' : ldN h b off (l.length * 1) = some (l.flatMap encByte) := hs
    rw [Nat.mul_one] at hs'
    rw [hs']
    show (convV.go (l.flatMap encByte)).map _ = _
    rw [bytesOf_go]; rfl
  | slR cs off len cap =>
    have hc : convV prog T_S_uint8 T_string (.slR cs off len cap) h = match cut cs off len with | some cs => convV.bytesOf cs | none => none := by kernel_rfl
    rw [hc]
    simp only [srcLen, Option.some.injEq] at hl
    subst hl
    have hs' : cut cs off (l.length * 1) = some (l.flatMap encByte) := hs
    rw [Nat.mul_one] at hs'
    rw [hs']
    show (convV.go (l.flatMap encByte)).map _ = _
    rw [bytesOf_go]; rfl
  | str t =>
    have := hv.rd.len
    cases this
  | _ => all_goals (simp [srcLen] at hl)

/-! ### Slices wherever they lie -/
/-- The slice reads so, wherever the row's blocks are. -/
def SlB {α : Type} (es : Nat) (enc : α → List V) (v : V) (l : List α) (row : List Blk) : Prop := ∀ ls : List (List Blk), (∀ p ∈ row, p ∈ ls.flatten) → RdT ls es enc v l
theorem AccT.slB {α : Type} {es : Nat} {enc : α → List V} {v : V} {l : List α} {row : List Blk} (a : AccT es enc v l row) : SlB es enc v l row := fun ls hr => a.rd hr
theorem GSl.slB {α : Type} {es : Nat} {enc : α → List V} (he : ∀ x, (enc x).length = es) (s : GSl α) : SlB es enc (encSl enc s) s.l [] := fun ls _ => s.rd ls he
theorem SlB.of {α : Type} {es : Nat} {enc : α → List V} {v : V} {l : List α} {row : List Blk} (a : SlB es enc v l row) {ls : List (List Blk)} (i : Nat) (hi : ls[i]? = some row) : RdT ls es enc v l :=
  a ls fun p hp => List.mem_flatten.2 ⟨row, List.mem_of_getElem? hi, hp⟩
theorem SlB.ro {α : Type} {es : Nat} {enc : α → List V} {v : V} {l : List α} (a : SlB es enc v l []) (ls : List (List Blk)) : RdT ls es enc v l := a ls fun p hp => by cases hp

theorem slices_Clone_bytes {d : Nat} (hd : 1 ≤ d) {ls : List (List Blk)} {h : H} {v : V} {l : List UInt8} (s : St ls h) (hv : RdT ls 1 encByte v l) (hl : l.length ≤ most)
    {Q : Post} (k : ∀ v' row h', SlB 1 encByte v' l row → St (row :: ls) h' → (v' = .slN ↔ v = .slN) → Q v' h') : callW prog ws d f_slices_Clone_S_byte_byte [v] h Q := by
  obtain ⟨d, rfl⟩ : ∃ e, d = e + 1 := ⟨d - 1, by omega⟩
  rw [u_slices_Clone_S_byte_byte]
  by_cases hn : v = .slN
  · subst hn
    have e : binK prog .eql T_S_uint8 false true .slN .slN = some (.bool true) := by kernel_rfl
    simp -failIfUnchanged only [bindP_some_eq, bindP_none_eq, guardP_true_eq, asB_eq, bcase_true, bcase_false, allocK_some, runD_nil, guardT_bool, extV_tup, map_some_eq, Option.map_some, Option.map_none, fV_agg, fVA_agg, lenS_sl, lenS_slR, lenS_slN, lenStr_str, cvI_int, pickV_bool, nilCk_ptr, nilCk_ptrR, nilCk_func, nilCk_yield, nilCk_iface, nilCk_slR, nilCk_sl, nilCk_int, unV_not, unV_neg, binK_add, binK_sub, binK_mul, binK_eql, binK_neq, binK_lss, binK_leq, binK_gtr, binK_geq, chk_same, cond_true, cond_false, List.getElem?_cons_zero, List.getElem?_cons_succ, List.length_cons, List.length_nil, Nat.zero_add, Nat.add_zero, callVal_func, List.nil_append, List.append_nil, sem_call, e]
    have : l = [] := by
      have := hv.rd.srcl
      simp [srcLen] at this
      exact List.length_eq_zero_iff.1 this.symm
    subst this
    exact k _ [] h (fun ls _ => RdT.nil ls encByte_len) (St.nilR.2 s) Iff.rfl
  · have e : binK prog .eql T_S_uint8 false true v .slN = some (.bool false) := by
      have hl := hv.rd.len
      cases v with
      | slN => exact absurd rfl hn
      | sl b off len cap es => show binK prog .eql T_S_uint8 false true (.sl b off len cap es) .slN = _; kernel_rfl
      | slR cs off len cap => show binK prog .eql T_S_uint8 false true (.slR cs off len cap) .slN = _; kernel_rfl
      | _ => all_goals cases hl
    simp -failIfUnchanged only [bindP_some_eq, bindP_none_eq, guardP_true_eq, asB_eq, bcase_true, bcase_false, allocK_some, runD_nil, guardT_bool, extV_tup, map_some_eq, Option.map_some, Option.map_none, fV_agg, fVA_agg, lenS_sl, lenS_slR, lenS_slN, lenStr_str, cvI_int, pickV_bool, nilCk_ptr, nilCk_ptrR, nilCk_func, nilCk_yield, nilCk_iface, nilCk_slR, nilCk_sl, nilCk_int, unV_not, unV_neg, binK_add, binK_sub, binK_mul, binK_eql, binK_neq, binK_lss, binK_leq, binK_gtr, binK_geq, chk_same, cond_true, cond_false, List.getElem?_cons_zero, List.getElem?_cons_succ, List.length_cons, List.length_nil, Nat.zero_add, Nat.add_zero, callVal_func, List.nil_append, List.append_nil, sem_call, e]
    unfold J_slices_Clone_S_byte_byte2
    have e1 : bsl 1 [] 0 [] = some (.cells [] 1 false, fun b => .sl b 0 0 none 1) := rfl
    rw [e1]
    refine allocK_at s fun b h1 s1 => ?_
    have hs := hv.rd.src h1 |> fun f => f s1.tail l.length (Nat.le_refl _)
    rw [List.take_of_length_le (by rw [flatMap_len encByte_len]; exact Nat.le_refl _)] at hs
    unfold appK
    rw [hv.rd.srcl]
    show bindP (srcCells v 1 l.length h1) _
    rw [hs]
    show (match h1.get b with | some (.cells cs es' g) => _ | _ => False)
    rw [s1.g 0 rfl]
    show guardP (Nat.beq 1 1 && Nat.beq 1 1 && !Nat.beq 1 0) _
    show bif Nat.ble (0 + l.length) ((none : Option Nat).getD ((([] : List V).length - 0) / 1)) then _ else _
    show bif Nat.ble (0 + l.length) 0 then _ else _
    rw [Nat.zero_add]
    by_cases h0 : l.length = 0
    · have : l = [] := List.length_eq_zero_iff.1 h0
      subst this
      show bindP (stN h1 b (0 + 0 * 1) []) _
      unfold stN
      rw [s1.g 0 rfl]
      refine k _ [(b, .cells [] 1 false)] _ ?_ (s1.set _) ⟨fun x => (by cases x), fun x => absurd x hn⟩
      intro ls hr
      exact ⟨Rd.blockAll (hr _ (List.mem_singleton.2 rfl)) 0 none (by simp), encByte_len⟩
    · rw [nble_f (by omega)]
      have ec : cut ([] : List V) 0 (0 * 1) = some [] := rfl
      rw [ec]
      show grownK 1 l.length ([] ++ l.flatMap encByte) h1 Q
      unfold grownK roomN
      rw [nble_t hl]
      refine k _ [(h1.n, .cells (l.flatMap encByte) 1 true)] _ ?_ ((s1.push _).drop1) ⟨fun x => (by cases x), fun x => absurd x hn⟩
      intro ls hr
      exact ⟨Rd.blockAll (hr _ (List.mem_singleton.2 rfl)) l.length none (flatMap_len encByte_len l), encByte_len⟩

/-! ### Messages -/
structure Msg where
  chan : Int
  win : Int
  data : List UInt8
deriving DecidableEq
/-- A message as it lies. -/
structure MsgV where
  chan : Int
  win : Int
  data : V
def encMsgV (m : MsgV) : List V := [I m.chan, I m.win, m.data]
theorem encMsgV_len (m : MsgV) : (encMsgV m).length = 3 := rfl
/-- A slice of messages. -/
structure DMsg (ls : List (List Blk)) (v : V) (l : List Msg) (raw : List MsgV) : Prop where
  rd : RdT ls 3 encMsgV v raw
  len : raw.length = l.length
  el : ∀ (i : Nat) (x : MsgV) (m : Msg), raw[i]? = some x → l[i]? = some m → x.chan = m.chan ∧ x.win = m.win ∧ RdT ls 1 encByte x.data m.data
theorem DMsg.weaken {ls ls' : List (List Blk)} {v : V} {l : List Msg} {raw : List MsgV} (x : DMsg ls v l raw) (hs : ∀ h, St ls' h → St ls h) : DMsg ls' v l raw :=
  ⟨x.rd.weaken hs, x.len, fun i a b h1 h2 => ⟨(x.el i a b h1 h2).1, (x.el i a b h1 h2).2.1, (x.el i a b h1 h2).2.2.weaken hs⟩⟩
def Message.m (x : Message) : Msg := ⟨x.chan, x.win, x.data.l⟩
def Message.v (x : Message) : MsgV := ⟨x.chan, x.win, encSl encByte x.data⟩
theorem flatMap_msg (l : List Message) : l.flatMap encMessage = (l.map Message.v).flatMap encMsgV := by
  induction l with
  | nil => rfl
  | cons x l ih => rw [List.flatMap_cons, List.map_cons, List.flatMap_cons, ih]; rfl
theorem DMsg.arg (ls : List (List Blk)) (x : GSl Message) : DMsg ls (encSl encMessage x) (x.l.map Message.m) (x.l.map Message.v) := by
  refine ⟨?_, by simp, fun i a b h1 h2 => ?_⟩
  · cases x with
    | nil => exact RdT.nil ls encMsgV_len
    | mk l =>
      have := RdT.arg ls encMsgV_len (l.map Message.v) none
      rw [← flatMap_msg, List.length_map] at this
      exact this
  · rw [List.getElem?_map] at h1 h2
    cases hx : x.l[i]? with
    | none => rw [hx] at h1; cases h1
    | some y =>
      rw [hx] at h1 h2
      cases h1
      cases h2
      exact ⟨rfl, rfl, y.data.rd ls encByte_len⟩
theorem At.msg {ls : List (List Blk)} {a : V} {e : MsgV} {h : H} (x : At ls a (encMsgV e)) (s : St ls h) :
    (∀ j, fA j a = some (addA a j)) ∧ ld (addA a 0) h = some (I e.chan) ∧ ld (addA a 1) h = some (I e.win) ∧ ld (addA a 2) h = some e.data ∧ ldA 3 a h = some (.agg (encMsgV e)) :=
  ⟨x.fld, x.rd1 s 0 _ rfl, x.rd1 s 1 _ rfl, x.rd1 s 2 _ rfl, x.whole s 3 rfl⟩

theorem ref19_Same_spec {d : Nat} (hd : 1 ≤ d) {ls : List (List Blk)} {h : H} {v w : V} {l m : List Msg} {lr mr : List MsgV} (s : St ls h) (hv : DMsg ls v l lr) (hw : DMsg ls w m mr) (hl : l.length < 9223372036854775808)
    {Q : Post} (k : Q (.bool (decide (l = m))) h) : callW prog ws d f_ref19_Same [v, w] h Q := by
  obtain ⟨d, rfl⟩ : ∃ e, d = e + 1 := ⟨d - 1, by omega⟩
  rw [u_ref19_Same]
  have vl := hv.len
  have wl := hw.len
  simp -failIfUnchanged only [bindP_some_eq, bindP_none_eq, guardP_true_eq, asB_eq, bcase_true, bcase_false, allocK_some, runD_nil, guardT_bool, extV_tup, map_some_eq, Option.map_some, Option.map_none, fV_agg, fVA_agg, lenS_sl, lenS_slR, lenS_slN, lenStr_str, cvI_int, pickV_bool, nilCk_ptr, nilCk_ptrR, nilCk_func, nilCk_yield, nilCk_iface, nilCk_slR, nilCk_sl, nilCk_int, unV_not, unV_neg, binK_add, binK_sub, binK_mul, binK_eql, binK_neq, binK_lss, binK_leq, binK_gtr, binK_geq, chk_same, cond_true, cond_false, List.getElem?_cons_zero, List.getElem?_cons_succ, List.length_cons, List.length_nil, Nat.zero_add, Nat.add_zero, callVal_func, List.nil_append, List.append_nil, sem_call, hv.rd.len, hw.rd.len]
  have hQf : l ≠ m → Q (.bool false) h := fun e => by rw [decide_eq_false e] at k; exact k
  refine bcase_dec (fun hne => hQf fun e => hne (by rw [vl, wl, e])) fun he => ?_
  have he : l.length = m.length := by omega
  unfold J_ref19_Same4
  suffices key : ∀ (n i : Nat), i ≤ l.length → l.length - i < n → (∀ j, j < i → l[j]? = m[j]?) → L_ref19_Same5 d Q n v w (.bool false) (I i) [] h from
    key fuel 0 (Nat.zero_le _) (fuel_lt (by omega)) (fun j hj => by omega)
  intro n
  induction n with
  | zero => intro i _ h2; omega
  | succ n ih =>
    intro i h1 h2 h3
    rw [L_ref19_Same5_succ]
    unfold S_ref19_Same5
    simp -failIfUnchanged only [bindP_some_eq, bindP_none_eq, guardP_true_eq, asB_eq, bcase_true, bcase_false, allocK_some, runD_nil, guardT_bool, extV_tup, map_some_eq, Option.map_some, Option.map_none, fV_agg, fVA_agg, lenS_sl, lenS_slR, lenS_slN, lenStr_str, cvI_int, pickV_bool, nilCk_ptr, nilCk_ptrR, nilCk_func, nilCk_yield, nilCk_iface, nilCk_slR, nilCk_sl, nilCk_int, unV_not, unV_neg, binK_add, binK_sub, binK_mul, binK_eql, binK_neq, binK_lss, binK_leq, binK_gtr, binK_geq, chk_same, cond_true, cond_false, List.getElem?_cons_zero, List.getElem?_cons_succ, List.length_cons, List.length_nil, Nat.zero_add, Nat.add_zero, callVal_func, List.nil_append, List.append_nil, sem_call, hv.rd.len]
    refine bcase_dec (fun hi => ?_) fun hi => ?_
    · have hi : i < l.length := by omega
      obtain ⟨a, ha⟩ : ∃ a, l[i]? = some a := ⟨_, List.getElem?_eq_getElem hi⟩
      obtain ⟨b, hb⟩ : ∃ b, m[i]? = some b := ⟨_, List.getElem?_eq_getElem (by omega)⟩
      obtain ⟨ar, har⟩ : ∃ a, lr[i]? = some a := ⟨_, List.getElem?_eq_getElem (by omega)⟩
      obtain ⟨br, hbr⟩ : ∃ b, mr[i]? = some b := ⟨_, List.getElem?_eq_getElem (by omega)⟩
      obtain ⟨fa, a0, a1, a2, _⟩ := (hv.rd.el i ar har).msg s
      obtain ⟨fb, b0, b1, b2, _⟩ := (hw.rd.el i br hbr).msg s
      obtain ⟨p0, p1, p2⟩ := hv.el i ar a har ha
      obtain ⟨q0, q1, q2⟩ := hw.el i br b hbr hb
      have hne : a ≠ b → l ≠ m := fun e e' => by rw [e'] at ha; rw [ha] at hb; exact e (by injection hb)
      have hJ : ∀ x, (x = true → a ≠ b) → (x = false → a = b) → J_ref19_Same19 d Q (L_ref19_Same5 d Q n) v w (.bool false) (I i) (.bool x) [] h := by
        intro x hx hx'
        unfold J_ref19_Same19
        simp -failIfUnchanged only [bindP_some_eq, bindP_none_eq, guardP_true_eq, asB_eq, bcase_true, bcase_false, allocK_some, runD_nil, guardT_bool, extV_tup, map_some_eq, Option.map_some, Option.map_none, fV_agg, fVA_agg, lenS_sl, lenS_slR, lenS_slN, lenStr_str, cvI_int, pickV_bool, nilCk_ptr, nilCk_ptrR, nilCk_func, nilCk_yield, nilCk_iface, nilCk_slR, nilCk_sl, nilCk_int, unV_not, unV_neg, binK_add, binK_sub, binK_mul, binK_eql, binK_neq, binK_lss, binK_leq, binK_gtr, binK_geq, chk_same, cond_true, cond_false, List.getElem?_cons_zero, List.getElem?_cons_succ, List.length_cons, List.length_nil, Nat.zero_add, Nat.add_zero, callVal_func, List.nil_append, List.append_nil, sem_call]
        refine bcase_of (fun e => hQf (hne (hx e))) fun e => ?_
        unfold J_ref19_Same21
        simp -failIfUnchanged only [bindP_some_eq, bindP_none_eq, guardP_true_eq, asB_eq, bcase_true, bcase_false, allocK_some, runD_nil, guardT_bool, extV_tup, map_some_eq, Option.map_some, Option.map_none, fV_agg, fVA_agg, lenS_sl, lenS_slR, lenS_slN, lenStr_str, cvI_int, pickV_bool, nilCk_ptr, nilCk_ptrR, nilCk_func, nilCk_yield, nilCk_iface, nilCk_slR, nilCk_sl, nilCk_int, unV_not, unV_neg, binK_add, binK_sub, binK_mul, binK_eql, binK_neq, binK_lss, binK_leq, binK_gtr, binK_geq, chk_same, cond_true, cond_false, List.getElem?_cons_zero, List.getElem?_cons_succ, List.length_cons, List.length_nil, Nat.zero_add, Nat.add_zero, callVal_func, List.nil_append, List.append_nil, sem_call]
        rw [wrap64 (by omega) (by omega)]
        refine ih (i + 1) (by omega) (by omega) fun j hj => ?_
        rcases Nat.lt_or_ge j i with x | x
        · exact h3 j x
        · have : j = i := by omega
          rw [this, ha, hb, hx' e]
      unfold J_ref19_Same10
      simp -failIfUnchanged only [bindP_some_eq, bindP_none_eq, guardP_true_eq, asB_eq, bcase_true, bcase_false, allocK_some, runD_nil, guardT_bool, extV_tup, map_some_eq, Option.map_some, Option.map_none, fV_agg, fVA_agg, lenS_sl, lenS_slR, lenS_slN, lenStr_str, cvI_int, pickV_bool, nilCk_ptr, nilCk_ptrR, nilCk_func, nilCk_yield, nilCk_iface, nilCk_slR, nilCk_sl, nilCk_int, unV_not, unV_neg, binK_add, binK_sub, binK_mul, binK_eql, binK_neq, binK_lss, binK_leq, binK_gtr, binK_geq, chk_same, cond_true, cond_false, List.getElem?_cons_zero, List.getElem?_cons_succ, List.length_cons, List.length_nil, Nat.zero_add, Nat.add_zero, callVal_func, List.nil_append, List.append_nil, sem_call, hv.rd.ix i (by omega), hw.rd.ix i (by omega), fa, fb, a0, a1, a2, b0, b1, b2, conv_bytes s p2, conv_bytes s q2, binK_str_neq]
      rw [p0, p1, q0, q1]
      refine bcase_dec (fun e => hJ true (fun _ x => e (by rw [x])) (fun x => by cases x)) fun e0 => ?_
      refine bcase_dec (fun e => hJ true (fun _ x => e (by rw [x])) (fun x => by cases x)) fun e1 => ?_
      refine hJ _ (fun x => ?_) (fun x => ?_)
      · intro y; rw [y] at x; simp at x
      · simp at x e0 e1
        cases a; cases b; simp_all
    · unfold J_ref19_Same6
      simp -failIfUnchanged only [bindP_some_eq, bindP_none_eq, guardP_true_eq, asB_eq, bcase_true, bcase_false, allocK_some, runD_nil, guardT_bool, extV_tup, map_some_eq, Option.map_some, Option.map_none, fV_agg, fVA_agg, lenS_sl, lenS_slR, lenS_slN, lenStr_str, cvI_int, pickV_bool, nilCk_ptr, nilCk_ptrR, nilCk_func, nilCk_yield, nilCk_iface, nilCk_slR, nilCk_sl, nilCk_int, unV_not, unV_neg, binK_add, binK_sub, binK_mul, binK_eql, binK_neq, binK_lss, binK_leq, binK_gtr, binK_geq, chk_same, cond_true, cond_false, List.getElem?_cons_zero, List.getElem?_cons_succ, List.length_cons, List.length_nil, Nat.zero_add, Nat.add_zero, callVal_func, List.nil_append, List.append_nil, sem_call]
      have : l = m := by
        apply List.ext_getElem?
        intro j
        rcases Nat.lt_or_ge j i with x | x
        · exact h3 j x
        · rw [List.getElem?_eq_none (by omega), List.getElem?_eq_none (by omega)]
      rw [decide_eq_true this] at k
      exact k
end Am

/-
Channels from a partition; its messages.
-/
namespace Am
open Go

theorem At.chan {ls : List (List Blk)} {a : V} {e : ChanConf} {h : H} (x : At ls a (encChan e)) (s : St ls h) :
    (∀ j, fA j a = some (addA a j)) ∧ (∀ i j, fA j (addA a i) = some (addA a (i + j))) ∧ ld (addA a 0) h = some (I e.fromPart) ∧ ld (addA a 1) h = some (I e.fromPort) ∧ ld (addA a 2) h = some (I e.toPart) ∧ ld (addA a 3) h = some (I e.toPort) ∧ ldA 4 a h = some (.agg (encChan e)) :=
  ⟨x.fld, fun i j => by rw [fA_addr (addA_addr x.addr i), addA_add], x.rd1 s 0 _ rfl, x.rd1 s 1 _ rfl, x.rd1 s 2 _ rfl, x.rd1 s 3 _ rfl, x.whole s 4 rfl⟩
theorem At.config {ls : List (List Blk)} {a : V} {e : Config} {h : H} (x : At ls a (encConfig e)) (s : St ls h) :
    (∀ j, fA j a = some (addA a j)) ∧ (∀ i j, fA j (addA a i) = some (addA a (i + j))) ∧ ld (addA a 0) h = some (encSl encPart e.parts) ∧ ld (addA a 1) h = some (encSl encChan e.chans) ∧ ld (addA a 2) h = some (encSl encMode e.modes) ∧ ldA 13 a h = some (.agg (encConfig e)) :=
  ⟨x.fld, fun i j => by rw [fA_addr (addA_addr x.addr i), addA_add], x.rd1 s 0 _ rfl, x.rd1 s 1 _ rfl, x.rd1 s 2 _ rfl, x.whole s 13 rfl⟩

theorem encChan_len (x : ChanConf) : (encChan x).length = 4 := rfl
theorem flatMap_take {α : Type} {enc : α → List V} {es : Nat} (he : ∀ x, (enc x).length = es) : ∀ (l : List α) (n : Nat), (l.take n).flatMap enc = (l.flatMap enc).take (n * es)
  | [], n => by simp
  | x :: l, 0 => by simp
  | x :: l, n + 1 => by
    have e2 : (n + 1) * es = es + n * es := by rw [Nat.add_mul, Nat.one_mul, Nat.add_comm]
    rw [List.take_succ_cons, List.flatMap_cons, List.flatMap_cons, e2, List.take_append, List.take_of_length_le (l := enc x) (by rw [he]; omega), he, Nat.add_sub_cancel_left, flatMap_take he l n]
/-- The first ones of a list, as they lie. -/
theorem slS_take {α : Type} {es : Nat} {enc : α → List V} (he : ∀ x, (enc x).length = es) (s : GSl α) (n : Nat) (hn : n ≤ s.l.length) :
    ∃ v, slS es (encSl enc s) none (some (I n)) none = some v ∧ SlB es enc v (s.l.take n) [] := by
  cases s with
  | nil =>
    have : n = 0 := by simpa [GSl.l] using hn
    subst this
    exact ⟨.slN, rfl, fun ls _ => RdT.nil ls he⟩
  | mk l =>
    have hn : n ≤ l.length := hn
    have e : slS es (encSl enc (.mk l)) none (some (I n)) none = (bif Nat.ble 0 n && Nat.ble n l.length then some (.slR (l.flatMap enc) (0 + 0 * es) (n - 0) none) else none) := by
      show (match bound none 0, bound (some (I n)) l.length with | some l', some h => _ | _, _ => none) = _
      have : bound (some (I n)) l.length = some n := by simp [bound, I]
      rw [this]
      rfl
    refine ⟨.slR (l.flatMap enc) 0 n none, ?_, fun ls _ => ?_⟩
    · rw [e, nble_t (Nat.zero_le n), nble_t hn]
      simp
    · have hl : ((l.take n).flatMap enc) = (l.flatMap enc).take (n * es) := flatMap_take he l n
      have := Rd.readOnly ls es (l.flatMap enc) n none (by rw [flatMap_len he]; exact Nat.mul_le_mul_right es hn)
      refine ⟨?_, he⟩
      show Rd ls es _ ((l.take n).flatMap enc) (l.take n).length
      rw [hl, List.length_take, Nat.min_eq_left hn]
      exact this

theorem minV_two (k : IntKind) (a b : Int) : minV [.int k a, .int k b] = some (.int k (if b < a then b else a)) := rfl
theorem min_I (n m : Nat) : (if ((m : Nat) : Int) < ((n : Nat) : Int) then ((m : Nat) : Int) else ((n : Nat) : Int)) = ((min n m : Nat) : Int) := by
  split <;> omega

theorem link_channels_spec {d : Nat} (hd : 1 ≤ d) {ls : List (List Blk)} {h : H} {c : Config} (s : St ls h)
    {Q : Post} (k : ∀ v' h', SlB 4 encChan v' (c.chans.l.take 16) [] → St ls h' → Q v' h') : callW prog ws d f_link_channels [.agg (encConfig c)] h Q := by
  obtain ⟨d, rfl⟩ : ∃ e, d = e + 1 := ⟨d - 1, by omega⟩
  rw [u_link_channels]
  refine box_at s 13 rfl fun b h1 s1 => ?_
  obtain ⟨fa, _, _, c1, _, _⟩ := (At.row0 ls b (encConfig c) 13 false).config s1
  simp -failIfUnchanged only [bindP_some_eq, bindP_none_eq, guardP_true_eq, asB_eq, bcase_true, bcase_false, allocK_some, runD_nil, guardT_bool, extV_tup, map_some_eq, Option.map_some, Option.map_none, fV_agg, fVA_agg, lenS_sl, lenS_slR, lenS_slN, lenStr_str, cvI_int, pickV_bool, nilCk_ptr, nilCk_ptrR, nilCk_func, nilCk_yield, nilCk_iface, nilCk_slR, nilCk_sl, nilCk_int, unV_not, unV_neg, binK_add, binK_sub, binK_mul, binK_eql, binK_neq, binK_lss, binK_leq, binK_gtr, binK_geq, chk_same, cond_true, cond_false, List.getElem?_cons_zero, List.getElem?_cons_succ, List.length_cons, List.length_nil, Nat.zero_add, Nat.add_zero, callVal_func, List.nil_append, List.append_nil, sem_call, fa, c1, (c.chans.rd ls encChan_len).len, minV_two]
  have e16 : (16 : Int) = ((16 : Nat) : Int) := rfl
  rw [e16, min_I]
  obtain ⟨v, hv, hs⟩ := slS_take encChan_len c.chans (min c.chans.l.length 16) (Nat.min_le_left _ _)
  rw [hv]
  refine k v h1 ?_ s1.tail
  have : c.chans.l.take (min c.chans.l.length 16) = c.chans.l.take 16 := by
    rcases Nat.le_total 16 c.chans.l.length with x | x
    · rw [Nat.min_eq_right x]
    · rw [Nat.min_eq_left x, List.take_length, List.take_of_length_le x]
  rwa [this] at hs

/-- The channels from a partition. -/
def outs (c : Config) (part : Int) : List Int := ((c.chans.l.take 16).zipIdx.filter fun x => decide (x.1.fromPart = part)).map fun x => (x.2 : Int)

theorem link_Outs_spec {d : Nat} (hd : 2 ≤ d) {ls : List (List Blk)} {h : H} {c : Config} {part : Int} (s : St ls h)
    {Q : Post} (k : ∀ v' row h', AccT 1 encInt v' (outs c part) row → St (row :: ls) h' → Q v' h') : callW prog ws d f_link_Outs [.agg (encConfig c), I part] h Q := by
  obtain ⟨d, rfl⟩ : ∃ e, d = e + 1 := ⟨d - 1, by omega⟩
  rw [u_link_Outs]
  refine box_at s 13 rfl fun b h1 s1 => ?_
  obtain ⟨_, _, _, _, _, cw⟩ := (At.row0 ls b (encConfig c) 13 false).config s1
  simp -failIfUnchanged only [bindP_some_eq, bindP_none_eq, guardP_true_eq, asB_eq, bcase_true, bcase_false, allocK_some, runD_nil, guardT_bool, extV_tup, map_some_eq, Option.map_some, Option.map_none, fV_agg, fVA_agg, lenS_sl, lenS_slR, lenS_slN, lenStr_str, cvI_int, pickV_bool, nilCk_ptr, nilCk_ptrR, nilCk_func, nilCk_yield, nilCk_iface, nilCk_slR, nilCk_sl, nilCk_int, unV_not, unV_neg, binK_add, binK_sub, binK_mul, binK_eql, binK_neq, binK_lss, binK_leq, binK_gtr, binK_geq, chk_same, cond_true, cond_false, List.getElem?_cons_zero, List.getElem?_cons_succ, List.length_cons, List.length_nil, Nat.zero_add, Nat.add_zero, callVal_func, List.nil_append, List.append_nil, sem_call, cw]
  refine link_channels_spec (by omega) s1 fun v h2 hv s2 => ?_
  have s2 := s2.tail
  have hlen : (c.chans.l.take 16).length ≤ 16 := by simp; omega
  have hv0 := hv.ro ls
  generalize hl : c.chans.l.take 16 = l at *
  simp -failIfUnchanged only [bindP_some_eq, bindP_none_eq, guardP_true_eq, asB_eq, bcase_true, bcase_false, allocK_some, runD_nil, guardT_bool, extV_tup, map_some_eq, Option.map_some, Option.map_none, fV_agg, fVA_agg, lenS_sl, lenS_slR, lenS_slN, lenStr_str, cvI_int, pickV_bool, nilCk_ptr, nilCk_ptrR, nilCk_func, nilCk_yield, nilCk_iface, nilCk_slR, nilCk_sl, nilCk_int, unV_not, unV_neg, binK_add, binK_sub, binK_mul, binK_eql, binK_neq, binK_lss, binK_leq, binK_gtr, binK_geq, chk_same, cond_true, cond_false, List.getElem?_cons_zero, List.getElem?_cons_succ, List.length_cons, List.length_nil, Nat.zero_add, Nat.add_zero, callVal_func, List.nil_append, List.append_nil, sem_call, hv0.len]
  let G : Nat → List Int := fun i => ((l.zipIdx.take i).filter fun x => decide (x.1.fromPart = part)).map fun x => (x.2 : Int)
  suffices key : ∀ (n i : Nat) (w : V) (row : List Blk) (h : H), i ≤ l.length → l.length - i < n → AccT 1 encInt w (G i) row → St (row :: ls) h →
      L_link_Outs4 d Q n (I part) .slN w v (I l.length) (I i) [] h from
    key fuel 0 _ [] h2 (Nat.zero_le _) (fuel_lt (by omega)) (AccT.nil encInt_len) (St.nilR.2 s2)
  intro n
  induction n with
  | zero => intro i _ _ _ _ h2; omega
  | succ n ih =>
    intro i w row h g1 g2 ha s
    rw [L_link_Outs4_succ]
    unfold S_link_Outs4
    simp -failIfUnchanged only [bindP_some_eq, bindP_none_eq, guardP_true_eq, asB_eq, bcase_true, bcase_false, allocK_some, runD_nil, guardT_bool, extV_tup, map_some_eq, Option.map_some, Option.map_none, fV_agg, fVA_agg, lenS_sl, lenS_slR, lenS_slN, lenStr_str, cvI_int, pickV_bool, nilCk_ptr, nilCk_ptrR, nilCk_func, nilCk_yield, nilCk_iface, nilCk_slR, nilCk_sl, nilCk_int, unV_not, unV_neg, binK_add, binK_sub, binK_mul, binK_eql, binK_neq, binK_lss, binK_leq, binK_gtr, binK_geq, chk_same, cond_true, cond_false, List.getElem?_cons_zero, List.getElem?_cons_succ, List.length_cons, List.length_nil, Nat.zero_add, Nat.add_zero, callVal_func, List.nil_append, List.append_nil, sem_call]
    refine bcase_dec (fun hi => ?_) fun hi => ?_
    · have hi : i < l.length := by omega
      obtain ⟨a, he⟩ : ∃ a, l[i]? = some a := ⟨_, List.getElem?_eq_getElem hi⟩
      have hv' := hv.ro (row :: ls)
      obtain ⟨_, _, _, _, _, _, aw⟩ := (hv'.el i a he).chan s
      have hz : l.zipIdx[i]? = some (a, i) := by rw [List.getElem?_zipIdx, he]; simp
      have hG : G (i + 1) = G i ++ (if a.fromPart = part then [(i : Int)] else []) := by
        show ((l.zipIdx.take (i + 1)).filter _).map _ = _
        rw [take_succ_filter _ _ _ _ hz, List.map_append]
        congr 1
        by_cases hp : a.fromPart = part <;> simp [hp]
      have hgl : (G i).length ≤ i := by
        show (((l.zipIdx.take i).filter _).map _).length ≤ i
        rw [List.length_map]
        exact Nat.le_trans (List.length_filter_le _ _) (by simp; omega)
      have hnext : ∀ (w : V) (row : List Blk) (h : H), AccT 1 encInt w (G (i + 1)) row → St (row :: ls) h →
          J_link_Outs19 d Q (L_link_Outs4 d Q n) (I part) .slN w v (I l.length) (I i) [] h := by
        intro w row h ha s
        unfold J_link_Outs19
        simp -failIfUnchanged only [bindP_some_eq, bindP_none_eq, guardP_true_eq, asB_eq, bcase_true, bcase_false, allocK_some, runD_nil, guardT_bool, extV_tup, map_some_eq, Option.map_some, Option.map_none, fV_agg, fVA_agg, lenS_sl, lenS_slR, lenS_slN, lenStr_str, cvI_int, pickV_bool, nilCk_ptr, nilCk_ptrR, nilCk_func, nilCk_yield, nilCk_iface, nilCk_slR, nilCk_sl, nilCk_int, unV_not, unV_neg, binK_add, binK_sub, binK_mul, binK_eql, binK_neq, binK_lss, binK_leq, binK_gtr, binK_geq, chk_same, cond_true, cond_false, List.getElem?_cons_zero, List.getElem?_cons_succ, List.length_cons, List.length_nil, Nat.zero_add, Nat.add_zero, callVal_func, List.nil_append, List.append_nil, sem_call]
        rw [wrap64 (by omega) (by omega)]
        exact ih (i + 1) w row h (by omega) (by omega) ha s
      unfold J_link_Outs8
      simp -failIfUnchanged only [bindP_some_eq, bindP_none_eq, guardP_true_eq, asB_eq, bcase_true, bcase_false, allocK_some, runD_nil, guardT_bool, extV_tup, map_some_eq, Option.map_some, Option.map_none, fV_agg, fVA_agg, lenS_sl, lenS_slR, lenS_slN, lenStr_str, cvI_int, pickV_bool, nilCk_ptr, nilCk_ptrR, nilCk_func, nilCk_yield, nilCk_iface, nilCk_slR, nilCk_sl, nilCk_int, unV_not, unV_neg, binK_add, binK_sub, binK_mul, binK_eql, binK_neq, binK_lss, binK_leq, binK_gtr, binK_geq, chk_same, cond_true, cond_false, List.getElem?_cons_zero, List.getElem?_cons_succ, List.length_cons, List.length_nil, Nat.zero_add, Nat.add_zero, callVal_func, List.nil_append, List.append_nil, sem_call, hv'.ix i hi, aw]
      refine local_at s rfl rfl fun b h1 s1 => ?_
      obtain ⟨fb, ffb, b0, _, _, _, bw⟩ := (At.row0 (row :: ls) b (encChan a) 4 false).chan s1
      simp -failIfUnchanged only [bindP_some_eq, bindP_none_eq, guardP_true_eq, asB_eq, bcase_true, bcase_false, allocK_some, runD_nil, guardT_bool, extV_tup, map_some_eq, Option.map_some, Option.map_none, fV_agg, fVA_agg, lenS_sl, lenS_slR, lenS_slN, lenStr_str, cvI_int, pickV_bool, nilCk_ptr, nilCk_ptrR, nilCk_func, nilCk_yield, nilCk_iface, nilCk_slR, nilCk_sl, nilCk_int, unV_not, unV_neg, binK_add, binK_sub, binK_mul, binK_eql, binK_neq, binK_lss, binK_leq, binK_gtr, binK_geq, chk_same, cond_true, cond_false, List.getElem?_cons_zero, List.getElem?_cons_succ, List.length_cons, List.length_nil, Nat.zero_add, Nat.add_zero, callVal_func, List.nil_append, List.append_nil, sem_call, fb, ffb, b0, bw]
      refine bcase_dec (fun hp => ?_) fun hp => ?_
      · refine app1T (i : Int) (ls := [(b, .cells (encChan a) 4 false)] :: ls) ha s1.swap rfl (by decide) rfl (by rw [most_eq]; omega) fun v' row' h' a' s' => hnext v' row' h' ?_ s'.drop1
        rw [hG]
        simpa [hp] using a'
      · refine hnext w row h1 ?_ s1.tail
        rw [hG]
        simpa [hp] using ha
    · unfold J_link_Outs5
      simp -failIfUnchanged only [bindP_some_eq, bindP_none_eq, guardP_true_eq, asB_eq, bcase_true, bcase_false, allocK_some, runD_nil, guardT_bool, extV_tup, map_some_eq, Option.map_some, Option.map_none, fV_agg, fVA_agg, lenS_sl, lenS_slR, lenS_slN, lenStr_str, cvI_int, pickV_bool, nilCk_ptr, nilCk_ptrR, nilCk_func, nilCk_yield, nilCk_iface, nilCk_slR, nilCk_sl, nilCk_int, unV_not, unV_neg, binK_add, binK_sub, binK_mul, binK_eql, binK_neq, binK_lss, binK_leq, binK_gtr, binK_geq, chk_same, cond_true, cond_false, List.getElem?_cons_zero, List.getElem?_cons_succ, List.length_cons, List.length_nil, Nat.zero_add, Nat.add_zero, callVal_func, List.nil_append, List.append_nil, sem_call]
      have : i = l.length := by omega
      subst this
      refine k w row h ?_ s
      have hG : G l.length = outs c part := by
        show ((l.zipIdx.take l.length).filter _).map _ = ((List.filter _ (c.chans.l.take 16).zipIdx).map _)
        rw [hl, List.take_of_length_le (by simp)]
      rwa [hG] at ha

theorem slices_Index_spec {d : Nat} (hd : 1 ≤ d) {ls : List (List Blk)} {h : H} {v : V} {l : List Int} {x : Int} (s : St ls h) (hv : RdT ls 1 encInt v l) (hl : l.length < 9223372036854775808)
    {Q : Post} (k : ∀ r : Int, (0 ≤ r ↔ x ∈ l) → Q (I r) h) : callW prog ws d f_slices_Index_S_int_int [v, I x] h Q := by
  obtain ⟨d, rfl⟩ : ∃ e, d = e + 1 := ⟨d - 1, by omega⟩
  rw [u_slices_Index_S_int_int]
  simp -failIfUnchanged only [bindP_some_eq, bindP_none_eq, guardP_true_eq, asB_eq, bcase_true, bcase_false, allocK_some, runD_nil, guardT_bool, extV_tup, map_some_eq, Option.map_some, Option.map_none, fV_agg, fVA_agg, lenS_sl, lenS_slR, lenS_slN, lenStr_str, cvI_int, pickV_bool, nilCk_ptr, nilCk_ptrR, nilCk_func, nilCk_yield, nilCk_iface, nilCk_slR, nilCk_sl, nilCk_int, unV_not, unV_neg, binK_add, binK_sub, binK_mul, binK_eql, binK_neq, binK_lss, binK_leq, binK_gtr, binK_geq, chk_same, cond_true, cond_false, List.getElem?_cons_zero, List.getElem?_cons_succ, List.length_cons, List.length_nil, Nat.zero_add, Nat.add_zero, callVal_func, List.nil_append, List.append_nil, sem_call, hv.len]
  suffices key : ∀ (n i : Nat), i ≤ l.length → l.length - i < n → x ∉ l.take i → L_slices_Index_S_int_int1 d Q n v (I x) (I 0) (I l.length) (I i) [] h from
    key fuel 0 (Nat.zero_le _) (fuel_lt (by omega)) (by simp)
  intro n
  induction n with
  | zero => intro i _ h2; omega
  | succ n ih =>
    intro i g1 g2 g3
    rw [L_slices_Index_S_int_int1_succ]
    unfold S_slices_Index_S_int_int1
    simp -failIfUnchanged only [bindP_some_eq, bindP_none_eq, guardP_true_eq, asB_eq, bcase_true, bcase_false, allocK_some, runD_nil, guardT_bool, extV_tup, map_some_eq, Option.map_some, Option.map_none, fV_agg, fVA_agg, lenS_sl, lenS_slR, lenS_slN, lenStr_str, cvI_int, pickV_bool, nilCk_ptr, nilCk_ptrR, nilCk_func, nilCk_yield, nilCk_iface, nilCk_slR, nilCk_sl, nilCk_int, unV_not, unV_neg, binK_add, binK_sub, binK_mul, binK_eql, binK_neq, binK_lss, binK_leq, binK_gtr, binK_geq, chk_same, cond_true, cond_false, List.getElem?_cons_zero, List.getElem?_cons_succ, List.length_cons, List.length_nil, Nat.zero_add, Nat.add_zero, callVal_func, List.nil_append, List.append_nil, sem_call]
    refine bcase_dec (fun hi => ?_) fun hi => ?_
    · have hi : i < l.length := by omega
      obtain ⟨a, he⟩ : ∃ a, l[i]? = some a := ⟨_, List.getElem?_eq_getElem hi⟩
      have e0 := (hv.el i a he).rd1 s 0 _ rfl
      have ha : addA (elemA 1 v i) 0 = elemA 1 v i := by cases v <;> rfl
      rw [ha] at e0
      unfold J_slices_Index_S_int_int5
      simp -failIfUnchanged only [bindP_some_eq, bindP_none_eq, guardP_true_eq, asB_eq, bcase_true, bcase_false, allocK_some, runD_nil, guardT_bool, extV_tup, map_some_eq, Option.map_some, Option.map_none, fV_agg, fVA_agg, lenS_sl, lenS_slR, lenS_slN, lenStr_str, cvI_int, pickV_bool, nilCk_ptr, nilCk_ptrR, nilCk_func, nilCk_yield, nilCk_iface, nilCk_slR, nilCk_sl, nilCk_int, unV_not, unV_neg, binK_add, binK_sub, binK_mul, binK_eql, binK_neq, binK_lss, binK_leq, binK_gtr, binK_geq, chk_same, cond_true, cond_false, List.getElem?_cons_zero, List.getElem?_cons_succ, List.length_cons, List.length_nil, Nat.zero_add, Nat.add_zero, callVal_func, List.nil_append, List.append_nil, sem_call, hv.ix i hi, e0]
      refine bcase_dec (fun hp => ?_) fun hp => ?_
      · refine k i ⟨fun _ => ?_, fun _ => by omega⟩
        subst hp
        exact List.mem_of_getElem? he
      · unfold J_slices_Index_S_int_int10
        simp -failIfUnchanged only [bindP_some_eq, bindP_none_eq, guardP_true_eq, asB_eq, bcase_true, bcase_false, allocK_some, runD_nil, guardT_bool, extV_tup, map_some_eq, Option.map_some, Option.map_none, fV_agg, fVA_agg, lenS_sl, lenS_slR, lenS_slN, lenStr_str, cvI_int, pickV_bool, nilCk_ptr, nilCk_ptrR, nilCk_func, nilCk_yield, nilCk_iface, nilCk_slR, nilCk_sl, nilCk_int, unV_not, unV_neg, binK_add, binK_sub, binK_mul, binK_eql, binK_neq, binK_lss, binK_leq, binK_gtr, binK_geq, chk_same, cond_true, cond_false, List.getElem?_cons_zero, List.getElem?_cons_succ, List.length_cons, List.length_nil, Nat.zero_add, Nat.add_zero, callVal_func, List.nil_append, List.append_nil, sem_call]
        rw [wrap64 (by omega) (by omega)]
        refine ih (i + 1) (by omega) (by omega) ?_
        rw [List.take_add_one, he]
        simp [g3, hp]
    · unfold J_slices_Index_S_int_int2
      simp -failIfUnchanged only [bindP_some_eq, bindP_none_eq, guardP_true_eq, asB_eq, bcase_true, bcase_false, allocK_some, runD_nil, guardT_bool, extV_tup, map_some_eq, Option.map_some, Option.map_none, fV_agg, fVA_agg, lenS_sl, lenS_slR, lenS_slN, lenStr_str, cvI_int, pickV_bool, nilCk_ptr, nilCk_ptrR, nilCk_func, nilCk_yield, nilCk_iface, nilCk_slR, nilCk_sl, nilCk_int, unV_not, unV_neg, binK_add, binK_sub, binK_mul, binK_eql, binK_neq, binK_lss, binK_leq, binK_gtr, binK_geq, chk_same, cond_true, cond_false, List.getElem?_cons_zero, List.getElem?_cons_succ, List.length_cons, List.length_nil, Nat.zero_add, Nat.add_zero, callVal_func, List.nil_append, List.append_nil, sem_call]
      refine k (-1) ⟨fun h => by omega, fun hx => ?_⟩
      have : i = l.length := by omega
      subst this
      rw [List.take_length] at g3
      exact absurd hx g3
theorem slices_Contains_spec {d : Nat} (hd : 2 ≤ d) {ls : List (List Blk)} {h : H} {v : V} {l : List Int} {x : Int} (s : St ls h) (hv : RdT ls 1 encInt v l) (hl : l.length < 9223372036854775808)
    {Q : Post} (k : Q (.bool (decide (x ∈ l))) h) : callW prog ws d f_slices_Contains_S_int_int [v, I x] h Q := by
  obtain ⟨d, rfl⟩ : ∃ e, d = e + 1 := ⟨d - 1, by omega⟩
  rw [u_slices_Contains_S_int_int]
  refine slices_Index_spec (by omega) s hv hl fun r hr => ?_
  simp -failIfUnchanged only [bindP_some_eq, bindP_none_eq, guardP_true_eq, asB_eq, bcase_true, bcase_false, allocK_some, runD_nil, guardT_bool, extV_tup, map_some_eq, Option.map_some, Option.map_none, fV_agg, fVA_agg, lenS_sl, lenS_slR, lenS_slN, lenStr_str, cvI_int, pickV_bool, nilCk_ptr, nilCk_ptrR, nilCk_func, nilCk_yield, nilCk_iface, nilCk_slR, nilCk_sl, nilCk_int, unV_not, unV_neg, binK_add, binK_sub, binK_mul, binK_eql, binK_neq, binK_lss, binK_leq, binK_gtr, binK_geq, chk_same, cond_true, cond_false, List.getElem?_cons_zero, List.getElem?_cons_succ, List.length_cons, List.length_nil, Nat.zero_add, Nat.add_zero, callVal_func, List.nil_append, List.append_nil, sem_call]
  have : decide (r ≥ 0) = decide (x ∈ l) := by simp only [ge_iff_le, hr]
  rw [this]
  exact k
end Am

/-
A partition's messages, by either text.
-/
namespace Am
open Go

theorem SlB.mono {α : Type} {es : Nat} {enc : α → List V} {v : V} {l : List α} {row row' : List Blk} (a : SlB es enc v l row) (hr : ∀ p ∈ row, p ∈ row') : SlB es enc v l row' :=
  fun ls h => a ls fun p hp => h p (hr p hp)

/-- Messages that appends have made, with data of their own. -/
def DAcc (w : V) (l : List Msg) (row ext : List Blk) : Prop :=
  ∃ raw : List MsgV, AccT 3 encMsgV w raw row ∧ raw.length = l.length ∧ ∀ (i : Nat) (x : MsgV) (m : Msg), raw[i]? = some x → l[i]? = some m → x.chan = m.chan ∧ x.win = m.win ∧ SlB 1 encByte x.data m.data ext
theorem DAcc.d {w : V} {l : List Msg} {row ext : List Blk} (a : DAcc w l row ext) {ls : List (List Blk)} (i j : Nat) (hi : ls[i]? = some row) (hj : ls[j]? = some ext) : ∃ raw, DMsg ls w l raw := by
  obtain ⟨raw, h1, h2, h3⟩ := a
  exact ⟨raw, h1.slB.of i hi, h2, fun i x m hx hm => ⟨(h3 i x m hx hm).1, (h3 i x m hx hm).2.1, (h3 i x m hx hm).2.2.of j hj⟩⟩
theorem DAcc.nil : DAcc .slN [] [] [] := ⟨[], AccT.nil encMsgV_len, rfl, fun i x m h => by simp at h⟩

theorem mem_outs (c : Config) (part k : Int) : k ∈ outs c part ↔ ∃ i x, k = ((i : Nat) : Int) ∧ i < 16 ∧ c.chans.l[i]? = some x ∧ x.fromPart = part := by
  unfold outs
  rw [List.mem_map]
  constructor
  · rintro ⟨⟨x, i⟩, hm, rfl⟩
    rw [List.mem_filter] at hm
    obtain ⟨h1, h2⟩ := hm
    have := List.mem_zipIdx_iff_getElem?.1 h1
    have hi : i < 16 := by
      have := (List.getElem?_eq_some_iff.1 this).1
      simp at this
      omega
    exact ⟨i, x, rfl, hi, by rwa [List.getElem?_take_of_lt hi] at this, by simpa using h2⟩
  · rintro ⟨i, x, rfl, hi, hx, hp⟩
    refine ⟨(x, i), ?_, rfl⟩
    rw [List.mem_filter]
    refine ⟨List.mem_zipIdx_iff_getElem?.2 ?_, by simpa using hp⟩
    rwa [List.getElem?_take_of_lt hi]

theorem plain_From_spec {d : Nat} (hd : 3 ≤ d) {ls : List (List Blk)} {h : H} {c : Config} {v : V} {l : List Msg} {lr : List MsgV} {part : Int} (s : St ls h) (hv : DMsg ls v l lr) (hl : l.length ≤ 100000) (hdat : ∀ m ∈ l, m.data.length ≤ 100000)
    {Q : Post} (k : ∀ v' row ext h', DAcc v' (l.filter fun m => decide (m.chan ∈ outs c part)) row ext → St (row :: ext :: ls) h' → Q v' h') : callW prog ws d f_plain_From [.agg (encConfig c), v, I part] h Q := by
  obtain ⟨d, rfl⟩ : ∃ e, d = e + 1 := ⟨d - 1, by omega⟩
  rw [u_plain_From]
  refine box_at s 13 rfl fun b h1 s1 => ?_
  obtain ⟨_, _, _, _, _, cw⟩ := (At.row0 ls b (encConfig c) 13 false).config s1
  simp -failIfUnchanged only [bindP_some_eq, bindP_none_eq, guardP_true_eq, asB_eq, bcase_true, bcase_false, allocK_some, runD_nil, guardT_bool, extV_tup, map_some_eq, Option.map_some, Option.map_none, fV_agg, fVA_agg, lenS_sl, lenS_slR, lenS_slN, lenStr_str, cvI_int, pickV_bool, nilCk_ptr, nilCk_ptrR, nilCk_func, nilCk_yield, nilCk_iface, nilCk_slR, nilCk_sl, nilCk_int, unV_not, unV_neg, binK_add, binK_sub, binK_mul, binK_eql, binK_neq, binK_lss, binK_leq, binK_gtr, binK_geq, chk_same, cond_true, cond_false, List.getElem?_cons_zero, List.getElem?_cons_succ, List.length_cons, List.length_nil, Nat.zero_add, Nat.add_zero, callVal_func, List.nil_append, List.append_nil, sem_call, cw]
  refine link_Outs_spec (by omega) s1 fun o orow h2 ho s2 => ?_
  have s2 := s2.drop1
  have vl := hv.len
  simp -failIfUnchanged only [bindP_some_eq, bindP_none_eq, guardP_true_eq, asB_eq, bcase_true, bcase_false, allocK_some, runD_nil, guardT_bool, extV_tup, map_some_eq, Option.map_some, Option.map_none, fV_agg, fVA_agg, lenS_sl, lenS_slR, lenS_slN, lenStr_str, cvI_int, pickV_bool, nilCk_ptr, nilCk_ptrR, nilCk_func, nilCk_yield, nilCk_iface, nilCk_slR, nilCk_sl, nilCk_int, unV_not, unV_neg, binK_add, binK_sub, binK_mul, binK_eql, binK_neq, binK_lss, binK_leq, binK_gtr, binK_geq, chk_same, cond_true, cond_false, List.getElem?_cons_zero, List.getElem?_cons_succ, List.length_cons, List.length_nil, Nat.zero_add, Nat.add_zero, callVal_func, List.nil_append, List.append_nil, sem_call, hv.rd.len]
  rw [vl]
  have holen : (outs c part).length < 9223372036854775808 := by
    unfold outs
    rw [List.length_map]
    have := List.length_filter_le (fun x : ChanConf × Nat => decide (x.1.fromPart = part)) (List.take 16 c.chans.l).zipIdx
    simp at this
    omega
  suffices key : ∀ (n i : Nat) (w : V) (row ext : List Blk) (h : H), i ≤ l.length → l.length - i < n → DAcc w ((l.take i).filter fun m => decide (m.chan ∈ outs c part)) row ext → St (row :: ext :: orow :: ls) h →
      L_plain_From4 d Q n .slN o w v (I l.length) (I i) [] h from
    key fuel 0 _ [] [] h2 (Nat.zero_le _) (fuel_lt (by omega)) DAcc.nil (St.nilR.2 (St.nilR.2 s2))
  intro n
  induction n with
  | zero => intro i _ _ _ _ _ h2; omega
  | succ n ih =>
    intro i w row ext h g1 g2 ha s
    rw [L_plain_From4_succ]
    unfold S_plain_From4
    simp -failIfUnchanged only [bindP_some_eq, bindP_none_eq, guardP_true_eq, asB_eq, bcase_true, bcase_false, allocK_some, runD_nil, guardT_bool, extV_tup, map_some_eq, Option.map_some, Option.map_none, fV_agg, fVA_agg, lenS_sl, lenS_slR, lenS_slN, lenStr_str, cvI_int, pickV_bool, nilCk_ptr, nilCk_ptrR, nilCk_func, nilCk_yield, nilCk_iface, nilCk_slR, nilCk_sl, nilCk_int, unV_not, unV_neg, binK_add, binK_sub, binK_mul, binK_eql, binK_neq, binK_lss, binK_leq, binK_gtr, binK_geq, chk_same, cond_true, cond_false, List.getElem?_cons_zero, List.getElem?_cons_succ, List.length_cons, List.length_nil, Nat.zero_add, Nat.add_zero, callVal_func, List.nil_append, List.append_nil, sem_call]
    refine bcase_dec (fun hi => ?_) fun hi => ?_
    · have hi : i < l.length := by omega
      obtain ⟨a, he⟩ : ∃ a, l[i]? = some a := ⟨_, List.getElem?_eq_getElem hi⟩
      obtain ⟨ar, har⟩ : ∃ a, lr[i]? = some a := ⟨_, List.getElem?_eq_getElem (by omega)⟩
      have hv' := hv.weaken (ls' := row :: ext :: orow :: ls) (fun h s => s.tail.tail.tail)
      obtain ⟨_, _, _, _, aw⟩ := (hv'.rd.el i ar har).msg s
      obtain ⟨p0, p1, _⟩ := hv'.el i ar a har he
      have hnext : ∀ (w : V) (row ext : List Blk) (h : H), DAcc w ((l.take (i + 1)).filter fun m => decide (m.chan ∈ outs c part)) row ext → St (row :: ext :: orow :: ls) h →
          J_plain_From23 d Q (L_plain_From4 d Q n) .slN o w v (I l.length) (I i) [] h := by
        intro w row ext h ha s
        unfold J_plain_From23
        simp -failIfUnchanged only [bindP_some_eq, bindP_none_eq, guardP_true_eq, asB_eq, bcase_true, bcase_false, allocK_some, runD_nil, guardT_bool, extV_tup, map_some_eq, Option.map_some, Option.map_none, fV_agg, fVA_agg, lenS_sl, lenS_slR, lenS_slN, lenStr_str, cvI_int, pickV_bool, nilCk_ptr, nilCk_ptrR, nilCk_func, nilCk_yield, nilCk_iface, nilCk_slR, nilCk_sl, nilCk_int, unV_not, unV_neg, binK_add, binK_sub, binK_mul, binK_eql, binK_neq, binK_lss, binK_leq, binK_gtr, binK_geq, chk_same, cond_true, cond_false, List.getElem?_cons_zero, List.getElem?_cons_succ, List.length_cons, List.length_nil, Nat.zero_add, Nat.add_zero, callVal_func, List.nil_append, List.append_nil, sem_call]
        rw [wrap64 (by omega) (by omega)]
        exact ih (i + 1) w row ext h (by omega) (by omega) ha s
      unfold J_plain_From8
      simp -failIfUnchanged only [bindP_some_eq, bindP_none_eq, guardP_true_eq, asB_eq, bcase_true, bcase_false, allocK_some, runD_nil, guardT_bool, extV_tup, map_some_eq, Option.map_some, Option.map_none, fV_agg, fVA_agg, lenS_sl, lenS_slR, lenS_slN, lenStr_str, cvI_int, pickV_bool, nilCk_ptr, nilCk_ptrR, nilCk_func, nilCk_yield, nilCk_iface, nilCk_slR, nilCk_sl, nilCk_int, unV_not, unV_neg, binK_add, binK_sub, binK_mul, binK_eql, binK_neq, binK_lss, binK_leq, binK_gtr, binK_geq, chk_same, cond_true, cond_false, List.getElem?_cons_zero, List.getElem?_cons_succ, List.length_cons, List.length_nil, Nat.zero_add, Nat.add_zero, callVal_func, List.nil_append, List.append_nil, sem_call, hv'.rd.ix i (by omega), aw]
      refine local_at s rfl rfl fun b h1 s1 => ?_
      obtain ⟨fb, b0, _, b2, _⟩ := (At.row0 (row :: ext :: orow :: ls) b (encMsgV ar) 3 false).msg s1
      simp -failIfUnchanged only [bindP_some_eq, bindP_none_eq, guardP_true_eq, asB_eq, bcase_true, bcase_false, allocK_some, runD_nil, guardT_bool, extV_tup, map_some_eq, Option.map_some, Option.map_none, fV_agg, fVA_agg, lenS_sl, lenS_slR, lenS_slN, lenStr_str, cvI_int, pickV_bool, nilCk_ptr, nilCk_ptrR, nilCk_func, nilCk_yield, nilCk_iface, nilCk_slR, nilCk_sl, nilCk_int, unV_not, unV_neg, binK_add, binK_sub, binK_mul, binK_eql, binK_neq, binK_lss, binK_leq, binK_gtr, binK_geq, chk_same, cond_true, cond_false, List.getElem?_cons_zero, List.getElem?_cons_succ, List.length_cons, List.length_nil, Nat.zero_add, Nat.add_zero, callVal_func, List.nil_append, List.append_nil, sem_call, fb, b0]
      refine slices_Contains_spec (by omega) s1 (ho.slB.of 3 rfl) holen ?_
      simp -failIfUnchanged only [bindP_some_eq, bindP_none_eq, guardP_true_eq, asB_eq, bcase_true, bcase_false, allocK_some, runD_nil, guardT_bool, extV_tup, map_some_eq, Option.map_some, Option.map_none, fV_agg, fVA_agg, lenS_sl, lenS_slR, lenS_slN, lenStr_str, cvI_int, pickV_bool, nilCk_ptr, nilCk_ptrR, nilCk_func, nilCk_yield, nilCk_iface, nilCk_slR, nilCk_sl, nilCk_int, unV_not, unV_neg, binK_add, binK_sub, binK_mul, binK_eql, binK_neq, binK_lss, binK_leq, binK_gtr, binK_geq, chk_same, cond_true, cond_false, List.getElem?_cons_zero, List.getElem?_cons_succ, List.length_cons, List.length_nil, Nat.zero_add, Nat.add_zero, callVal_func, List.nil_append, List.append_nil, sem_call]
      refine bcase_dec (fun hp => ?_) fun hp => ?_
      · simp -failIfUnchanged only [bindP_some_eq, bindP_none_eq, guardP_true_eq, asB_eq, bcase_true, bcase_false, allocK_some, runD_nil, guardT_bool, extV_tup, map_some_eq, Option.map_some, Option.map_none, fV_agg, fVA_agg, lenS_sl, lenS_slR, lenS_slN, lenStr_str, cvI_int, pickV_bool, nilCk_ptr, nilCk_ptrR, nilCk_func, nilCk_yield, nilCk_iface, nilCk_slR, nilCk_sl, nilCk_int, unV_not, unV_neg, binK_add, binK_sub, binK_mul, binK_eql, binK_neq, binK_lss, binK_leq, binK_gtr, binK_geq, chk_same, cond_true, cond_false, List.getElem?_cons_zero, List.getElem?_cons_succ, List.length_cons, List.length_nil, Nat.zero_add, Nat.add_zero, callVal_func, List.nil_append, List.append_nil, sem_call, fb, b2]
        obtain ⟨_, _, pd⟩ := hv.el i ar a har he
        refine slices_Clone_bytes (by omega) s1 (pd.weaken fun h s => s.tail.tail.tail.tail) (by have := hdat a (List.mem_of_getElem? he); rw [most_eq]; omega) fun cv crow h3 hc s3 _ => ?_
        simp -failIfUnchanged only [bindP_some_eq, bindP_none_eq, guardP_true_eq, asB_eq, bcase_true, bcase_false, allocK_some, runD_nil, guardT_bool, extV_tup, map_some_eq, Option.map_some, Option.map_none, fV_agg, fVA_agg, lenS_sl, lenS_slR, lenS_slN, lenStr_str, cvI_int, pickV_bool, nilCk_ptr, nilCk_ptrR, nilCk_func, nilCk_yield, nilCk_iface, nilCk_slR, nilCk_sl, nilCk_int, unV_not, unV_neg, binK_add, binK_sub, binK_mul, binK_eql, binK_neq, binK_lss, binK_leq, binK_gtr, binK_geq, chk_same, cond_true, cond_false, List.getElem?_cons_zero, List.getElem?_cons_succ, List.length_cons, List.length_nil, Nat.zero_add, Nat.add_zero, callVal_func, List.nil_append, List.append_nil, sem_call, fb]
        have hst : storable cv = true := by
          have := (hc [crow] (fun p hp => by simpa using hp)).rd.len
          cases cv <;> first | rfl | cases this
        refine store_at s3 1 rfl (by simp [encMsgV]) hst fun h4 s4 => ?_
        have s4 : St (crow :: [(b, .cells (encMsgV ⟨ar.chan, ar.win, cv⟩) 3 false)] :: row :: ext :: orow :: ls) h4 := s4
        obtain ⟨_, _, _, _, bw⟩ := ((At.row (i := 1) rfl : At (crow :: [(b, .cells (encMsgV ⟨ar.chan, ar.win, cv⟩) 3 false)] :: row :: ext :: orow :: ls) (.ptr b 0) _)).msg s4
        simp -failIfUnchanged only [bindP_some_eq, bindP_none_eq, guardP_true_eq, asB_eq, bcase_true, bcase_false, allocK_some, runD_nil, guardT_bool, extV_tup, map_some_eq, Option.map_some, Option.map_none, fV_agg, fVA_agg, lenS_sl, lenS_slR, lenS_slN, lenStr_str, cvI_int, pickV_bool, nilCk_ptr, nilCk_ptrR, nilCk_func, nilCk_yield, nilCk_iface, nilCk_slR, nilCk_sl, nilCk_int, unV_not, unV_neg, binK_add, binK_sub, binK_mul, binK_eql, binK_neq, binK_lss, binK_leq, binK_gtr, binK_geq, chk_same, cond_true, cond_false, List.getElem?_cons_zero, List.getElem?_cons_succ, List.length_cons, List.length_nil, Nat.zero_add, Nat.add_zero, callVal_func, List.nil_append, List.append_nil, sem_call, bw]
        obtain ⟨raw, r1, r2, r3⟩ := ha
        have hlen : ((l.take i).filter fun m => decide (m.chan ∈ outs c part)).length ≤ i := Nat.le_trans (List.length_filter_le _ _) (by simp; omega)
        have s5 : St (row :: crow :: [(b, .cells (encMsgV ⟨ar.chan, ar.win, cv⟩) 3 false)] :: ext :: orow :: ls) h4 := s4.permL (by
          refine List.Perm.trans ?_ (List.perm_middle (a := row) (l₁ := [crow, [(b, .cells (encMsgV ⟨ar.chan, ar.win, cv⟩) 3 false)]]))
          exact List.Perm.refl _)
        refine app1T (⟨ar.chan, ar.win, cv⟩ : MsgV) r1 s5 rfl (by decide) rfl (by rw [most_eq]; omega) fun v' row' h' a' s' => hnext v' row' (crow ++ ext) h' ?_ ?_
        · rw [take_succ_filter _ _ _ _ he]
          rw [p0] at hp
          refine ⟨raw ++ [⟨ar.chan, ar.win, cv⟩], a', by rw [if_pos (by simpa using hp)]; simp [r2], fun j x m hx hm => ?_⟩
          rw [if_pos (by simpa using hp)] at hm
          rcases Nat.lt_or_ge j raw.length with hj | hj
          · rw [List.getElem?_append_left hj] at hx
            rw [List.getElem?_append_left (by omega)] at hm
            obtain ⟨q0, q1, q2⟩ := r3 j x m hx hm
            exact ⟨q0, q1, q2.mono fun p hp => by simp [hp]⟩
          · rw [List.getElem?_append_right hj] at hx
            rw [List.getElem?_append_right (by omega)] at hm
            have hj0 : j - raw.length = 0 := by
              have := (List.getElem?_eq_some_iff.1 hx).1
              simpa using this
            have hj1 : j - ((l.take i).filter fun m => decide (m.chan ∈ outs c part)).length = 0 := by omega
            rw [hj0] at hx
            rw [hj1] at hm
            cases hx
            cases hm
            exact ⟨p0, p1, hc.mono fun p hp => by simp [hp]⟩
        · have : St (row' :: crow :: ext :: orow :: ls) h' := s'.sub (by simp)
          exact this.perm (by simp)
      · refine hnext w row ext h1 ?_ s1.tail
        rw [take_succ_filter _ _ _ _ he]
        rw [p0] at hp
        simpa [hp] using ha
    · unfold J_plain_From5
      simp -failIfUnchanged only [bindP_some_eq, bindP_none_eq, guardP_true_eq, asB_eq, bcase_true, bcase_false, allocK_some, runD_nil, guardT_bool, extV_tup, map_some_eq, Option.map_some, Option.map_none, fV_agg, fVA_agg, lenS_sl, lenS_slR, lenS_slN, lenStr_str, cvI_int, pickV_bool, nilCk_ptr, nilCk_ptrR, nilCk_func, nilCk_yield, nilCk_iface, nilCk_slR, nilCk_sl, nilCk_int, unV_not, unV_neg, binK_add, binK_sub, binK_mul, binK_eql, binK_neq, binK_lss, binK_leq, binK_gtr, binK_geq, chk_same, cond_true, cond_false, List.getElem?_cons_zero, List.getElem?_cons_succ, List.length_cons, List.length_nil, Nat.zero_add, Nat.add_zero, callVal_func, List.nil_append, List.append_nil, sem_call]
      have : i = l.length := by omega
      subst this
      rw [List.take_length] at ha
      exact k w row ext h ha (s.sub (by simp))
end Am

/-
A partition's messages and programs.
-/
namespace Am
open Go

/-- Messages that appends have made out of those that there are. -/
def DSub (ls : List (List Blk)) (w : V) (l : List Msg) (row : List Blk) : Prop :=
  ∃ raw : List MsgV, AccT 3 encMsgV w raw row ∧ raw.length = l.length ∧ ∀ (i : Nat) (x : MsgV) (m : Msg), raw[i]? = some x → l[i]? = some m → x.chan = m.chan ∧ x.win = m.win ∧ RdT ls 1 encByte x.data m.data
theorem DSub.nil (ls : List (List Blk)) : DSub ls .slN [] [] := ⟨[], AccT.nil encMsgV_len, rfl, fun i x m h => by simp at h⟩
theorem DSub.d {ls : List (List Blk)} {w : V} {l : List Msg} {row : List Blk} (a : DSub ls w l row) {ls' : List (List Blk)} (i : Nat) (hi : ls'[i]? = some row) (hs : ∀ h, St ls' h → St ls h) : ∃ raw, DMsg ls' w l raw := by
  obtain ⟨raw, h1, h2, h3⟩ := a
  exact ⟨raw, h1.slB.of i hi, h2, fun i x m hx hm => ⟨(h3 i x m hx hm).1, (h3 i x m hx hm).2.1, (h3 i x m hx hm).2.2.weaken hs⟩⟩

theorem ref25_From_spec {d : Nat} (hd : 1 ≤ d) {ls : List (List Blk)} {h : H} {c : Config} {v : V} {l : List Msg} {lr : List MsgV} {part : Int} (s : St ls h) (hv : DMsg ls v l lr) (hl : l.length ≤ 100000)
    {Q : Post} (k : ∀ v' row h', DSub ls v' (l.filter fun m => decide (m.chan ∈ outs c part)) row → St (row :: ls) h' → Q v' h') : callW prog ws d f_ref25_From [.agg (encConfig c), v, I part] h Q := by
  obtain ⟨d, rfl⟩ : ∃ e, d = e + 1 := ⟨d - 1, by omega⟩
  rw [u_ref25_From]
  refine box_at s 13 rfl fun b h2 s2 => ?_
  have vl := hv.len
  suffices key : ∀ (n i : Nat) (w : V) (row : List Blk) (h : H), i ≤ l.length → l.length - i < n → DSub ls w ((l.take i).filter fun m => decide (m.chan ∈ outs c part)) row → St (row :: [(b, .cells (encConfig c) 13 false)] :: ls) h →
      L_ref25_From1 d Q n v (I part) (.ptr b 0) .slN w (I i) [] h from
    key fuel 0 _ [] h2 (Nat.zero_le _) (fuel_lt (by omega)) (DSub.nil ls) (St.nilR.2 s2)
  intro n
  induction n with
  | zero => intro i _ _ _ _ h2; omega
  | succ n ih =>
    intro i w row h g1 g2 ha s
    rw [L_ref25_From1_succ]
    unfold S_ref25_From1
    simp -failIfUnchanged only [bindP_some_eq, bindP_none_eq, guardP_true_eq, asB_eq, bcase_true, bcase_false, allocK_some, runD_nil, guardT_bool, extV_tup, map_some_eq, Option.map_some, Option.map_none, fV_agg, fVA_agg, lenS_sl, lenS_slR, lenS_slN, lenStr_str, cvI_int, pickV_bool, nilCk_ptr, nilCk_ptrR, nilCk_func, nilCk_yield, nilCk_iface, nilCk_slR, nilCk_sl, nilCk_int, unV_not, unV_neg, binK_add, binK_sub, binK_mul, binK_eql, binK_neq, binK_lss, binK_leq, binK_gtr, binK_geq, chk_same, cond_true, cond_false, List.getElem?_cons_zero, List.getElem?_cons_succ, List.length_cons, List.length_nil, Nat.zero_add, Nat.add_zero, callVal_func, List.nil_append, List.append_nil, sem_call, hv.rd.len]
    refine bcase_dec (fun hi => ?_) fun hi => ?_
    · have hi : i < l.length := by omega
      obtain ⟨a, he⟩ : ∃ a, l[i]? = some a := ⟨_, List.getElem?_eq_getElem hi⟩
      obtain ⟨ar, har⟩ : ∃ a, lr[i]? = some a := ⟨_, List.getElem?_eq_getElem (by omega)⟩
      have hv' := hv.weaken (ls' := row :: [(b, .cells (encConfig c) 13 false)] :: ls) (fun h s => s.tail.tail)
      obtain ⟨fa, a0, _, _, aw⟩ := (hv'.rd.el i ar har).msg s
      obtain ⟨p0, p1, pd⟩ := hv.el i ar a har he
      obtain ⟨fc, _, _, c1, _, _⟩ := ((At.row (i := 1) rfl : At (row :: [(b, .cells (encConfig c) 13 false)] :: ls) (.ptr b 0) _)).config s
      have hch := c.chans.rd (row :: [(b, .cells (encConfig c) 13 false)] :: ls) encChan_len
      have hnext : ∀ (w : V) (row : List Blk) (h : H), DSub ls w ((l.take (i + 1)).filter fun m => decide (m.chan ∈ outs c part)) row → St (row :: [(b, .cells (encConfig c) 13 false)] :: ls) h →
          J_ref25_From32 d Q (L_ref25_From1 d Q n) v (I part) (.ptr b 0) .slN w (I i) [] h := by
        intro w row h ha s
        unfold J_ref25_From32
        simp -failIfUnchanged only [bindP_some_eq, bindP_none_eq, guardP_true_eq, asB_eq, bcase_true, bcase_false, allocK_some, runD_nil, guardT_bool, extV_tup, map_some_eq, Option.map_some, Option.map_none, fV_agg, fVA_agg, lenS_sl, lenS_slR, lenS_slN, lenStr_str, cvI_int, pickV_bool, nilCk_ptr, nilCk_ptrR, nilCk_func, nilCk_yield, nilCk_iface, nilCk_slR, nilCk_sl, nilCk_int, unV_not, unV_neg, binK_add, binK_sub, binK_mul, binK_eql, binK_neq, binK_lss, binK_leq, binK_gtr, binK_geq, chk_same, cond_true, cond_false, List.getElem?_cons_zero, List.getElem?_cons_succ, List.length_cons, List.length_nil, Nat.zero_add, Nat.add_zero, callVal_func, List.nil_append, List.append_nil, sem_call]
        rw [wrap64 (by omega) (by omega)]
        exact ih (i + 1) w row h (by omega) (by omega) ha s
      have hJ : ∀ x : Bool, (x = true ↔ a.chan ∈ outs c part) → J_ref25_From26 d Q (L_ref25_From1 d Q n) v (I part) (.ptr b 0) .slN w (I i) (.bool x) [] h := by
        intro x hx
        unfold J_ref25_From26
        simp -failIfUnchanged only [bindP_some_eq, bindP_none_eq, guardP_true_eq, asB_eq, bcase_true, bcase_false, allocK_some, runD_nil, guardT_bool, extV_tup, map_some_eq, Option.map_some, Option.map_none, fV_agg, fVA_agg, lenS_sl, lenS_slR, lenS_slN, lenStr_str, cvI_int, pickV_bool, nilCk_ptr, nilCk_ptrR, nilCk_func, nilCk_yield, nilCk_iface, nilCk_slR, nilCk_sl, nilCk_int, unV_not, unV_neg, binK_add, binK_sub, binK_mul, binK_eql, binK_neq, binK_lss, binK_leq, binK_gtr, binK_geq, chk_same, cond_true, cond_false, List.getElem?_cons_zero, List.getElem?_cons_succ, List.length_cons, List.length_nil, Nat.zero_add, Nat.add_zero, callVal_func, List.nil_append, List.append_nil, sem_call]
        refine bcase_of (fun e => ?_) fun e => ?_
        · have hp := hx.1 e
          obtain ⟨raw, r1, r2, r3⟩ := ha
          have hlen : ((l.take i).filter fun m => decide (m.chan ∈ outs c part)).length ≤ i := Nat.le_trans (List.length_filter_le _ _) (by simp; omega)
          simp -failIfUnchanged only [bindP_some_eq, bindP_none_eq, guardP_true_eq, asB_eq, bcase_true, bcase_false, allocK_some, runD_nil, guardT_bool, extV_tup, map_some_eq, Option.map_some, Option.map_none, fV_agg, fVA_agg, lenS_sl, lenS_slR, lenS_slN, lenStr_str, cvI_int, pickV_bool, nilCk_ptr, nilCk_ptrR, nilCk_func, nilCk_yield, nilCk_iface, nilCk_slR, nilCk_sl, nilCk_int, unV_not, unV_neg, binK_add, binK_sub, binK_mul, binK_eql, binK_neq, binK_lss, binK_leq, binK_gtr, binK_geq, chk_same, cond_true, cond_false, List.getElem?_cons_zero, List.getElem?_cons_succ, List.length_cons, List.length_nil, Nat.zero_add, Nat.add_zero, callVal_func, List.nil_append, List.append_nil, sem_call, hv'.rd.ix i (by omega), aw]
          refine app1T ar r1 s rfl (by decide) rfl (by rw [most_eq]; omega) fun v' row' h' a' s' => hnext v' row' h' ?_ s'
          rw [take_succ_filter _ _ _ _ he]
          refine ⟨raw ++ [ar], a', by rw [if_pos (by simpa using hp)]; simp [r2], fun j x m hx hm => ?_⟩
          rw [if_pos (by simpa using hp)] at hm
          rcases Nat.lt_or_ge j raw.length with hj | hj
          · rw [List.getElem?_append_left hj] at hx
            rw [List.getElem?_append_left (by omega)] at hm
            exact r3 j x m hx hm
          · rw [List.getElem?_append_right hj] at hx
            rw [List.getElem?_append_right (by omega)] at hm
            have hj0 : j - raw.length = 0 := by
              have := (List.getElem?_eq_some_iff.1 hx).1
              simpa using this
            have hj1 : j - ((l.take i).filter fun m => decide (m.chan ∈ outs c part)).length = 0 := by omega
            rw [hj0] at hx
            rw [hj1] at hm
            cases hx
            cases hm
            exact ⟨p0, p1, pd⟩
        · refine hnext w row h ?_ s
          rw [take_succ_filter _ _ _ _ he, if_neg (by simp; intro y; rw [hx.2 y] at e; cases e), List.append_nil]
          exact ha
      unfold J_ref25_From6
      simp -failIfUnchanged only [bindP_some_eq, bindP_none_eq, guardP_true_eq, asB_eq, bcase_true, bcase_false, allocK_some, runD_nil, guardT_bool, extV_tup, map_some_eq, Option.map_some, Option.map_none, fV_agg, fVA_agg, lenS_sl, lenS_slR, lenS_slN, lenStr_str, cvI_int, pickV_bool, nilCk_ptr, nilCk_ptrR, nilCk_func, nilCk_yield, nilCk_iface, nilCk_slR, nilCk_sl, nilCk_int, unV_not, unV_neg, binK_add, binK_sub, binK_mul, binK_eql, binK_neq, binK_lss, binK_leq, binK_gtr, binK_geq, chk_same, cond_true, cond_false, List.getElem?_cons_zero, List.getElem?_cons_succ, List.length_cons, List.length_nil, Nat.zero_add, Nat.add_zero, callVal_func, List.nil_append, List.append_nil, sem_call, hv'.rd.ix i (by omega), fa, a0, p0]
      refine bcase_dec (fun e0 => ?_) fun e0 => hJ false ⟨fun x => (by cases x), fun x => by
        obtain ⟨j, y, hj, _⟩ := (mem_outs c part a.chan).1 x
        omega⟩
      simp -failIfUnchanged only [bindP_some_eq, bindP_none_eq, guardP_true_eq, asB_eq, bcase_true, bcase_false, allocK_some, runD_nil, guardT_bool, extV_tup, map_some_eq, Option.map_some, Option.map_none, fV_agg, fVA_agg, lenS_sl, lenS_slR, lenS_slN, lenStr_str, cvI_int, pickV_bool, nilCk_ptr, nilCk_ptrR, nilCk_func, nilCk_yield, nilCk_iface, nilCk_slR, nilCk_sl, nilCk_int, unV_not, unV_neg, binK_add, binK_sub, binK_mul, binK_eql, binK_neq, binK_lss, binK_leq, binK_gtr, binK_geq, chk_same, cond_true, cond_false, List.getElem?_cons_zero, List.getElem?_cons_succ, List.length_cons, List.length_nil, Nat.zero_add, Nat.add_zero, callVal_func, List.nil_append, List.append_nil, sem_call, fc, c1, hch.len]
      refine bcase_dec (fun e1 => ?_) fun e1 => hJ false ⟨fun x => (by cases x), fun x => by
        obtain ⟨j, y, hj, _, hy, _⟩ := (mem_outs c part a.chan).1 x
        have := (List.getElem?_eq_some_iff.1 hy).1
        omega⟩
      refine bcase_dec (fun e2 => ?_) fun e2 => hJ false ⟨fun x => (by cases x), fun x => by
        obtain ⟨j, y, hj, hj2, _⟩ := (mem_outs c part a.chan).1 x
        omega⟩
      obtain ⟨q, hq⟩ := Int.eq_ofNat_of_zero_le (show 0 ≤ a.chan from e0)
      rw [hq] at e1 e2 ⊢
      have hql : q < c.chans.l.length := by omega
      obtain ⟨ch, hcq⟩ : ∃ x, c.chans.l[q]? = some x := ⟨_, List.getElem?_eq_getElem hql⟩
      obtain ⟨fh, ffh, h0, _⟩ := (hch.el q ch hcq).chan s
      simp -failIfUnchanged only [bindP_some_eq, bindP_none_eq, guardP_true_eq, asB_eq, bcase_true, bcase_false, allocK_some, runD_nil, guardT_bool, extV_tup, map_some_eq, Option.map_some, Option.map_none, fV_agg, fVA_agg, lenS_sl, lenS_slR, lenS_slN, lenStr_str, cvI_int, pickV_bool, nilCk_ptr, nilCk_ptrR, nilCk_func, nilCk_yield, nilCk_iface, nilCk_slR, nilCk_sl, nilCk_int, unV_not, unV_neg, binK_add, binK_sub, binK_mul, binK_eql, binK_neq, binK_lss, binK_leq, binK_gtr, binK_geq, chk_same, cond_true, cond_false, List.getElem?_cons_zero, List.getElem?_cons_succ, List.length_cons, List.length_nil, Nat.zero_add, Nat.add_zero, callVal_func, List.nil_append, List.append_nil, sem_call, fc, c1, hch.ix q hql, fh, ffh, h0]
      refine hJ _ ?_
      rw [decide_eq_true_iff, mem_outs, hq]
      constructor
      · intro x
        exact ⟨q, ch, rfl, by omega, hcq, x⟩
      · rintro ⟨j, y, hj, _, hy, hyp⟩
        have : j = q := by omega
        subst this
        rw [hcq] at hy
        cases hy
        exact hyp
    · unfold J_ref25_From2
      simp -failIfUnchanged only [bindP_some_eq, bindP_none_eq, guardP_true_eq, asB_eq, bcase_true, bcase_false, allocK_some, runD_nil, guardT_bool, extV_tup, map_some_eq, Option.map_some, Option.map_none, fV_agg, fVA_agg, lenS_sl, lenS_slR, lenS_slN, lenStr_str, cvI_int, pickV_bool, nilCk_ptr, nilCk_ptrR, nilCk_func, nilCk_yield, nilCk_iface, nilCk_slR, nilCk_sl, nilCk_int, unV_not, unV_neg, binK_add, binK_sub, binK_mul, binK_eql, binK_neq, binK_lss, binK_leq, binK_gtr, binK_geq, chk_same, cond_true, cond_false, List.getElem?_cons_zero, List.getElem?_cons_succ, List.length_cons, List.length_nil, Nat.zero_add, Nat.add_zero, callVal_func, List.nil_append, List.append_nil, sem_call]
      have : i = l.length := by omega
      subst this
      rw [List.take_length] at ha
      exact k w row h ha s.drop1

/-- Cells of one's own. -/
def encV (v : V) : List V := [v]
theorem encV_len (v : V) : (encV v).length = 1 := rfl

theorem plain_Progs_spec {d : Nat} (hd : 1 ≤ d) {ls : List (List Blk)} {h : H} {pv fv : V} {l : List V} {part : Int} (s : St ls h) (hv : RdT ls 1 encV pv l)
    {Q : Post} (k : ∀ h', St ls h' → Q (if 0 ≤ part then (l[part.toNat]?).getD .slN else .slN) h') : callW prog ws d f_plain_Progs [.agg [pv, fv], I part] h Q := by
  obtain ⟨d, rfl⟩ : ∃ e, d = e + 1 := ⟨d - 1, by omega⟩
  rw [u_plain_Progs]
  refine box_at s 2 rfl fun b h1 s1 => ?_
  have hat := At.row0 ls b [pv, fv] 2 false
  have fa := hat.fld
  have b0 := hat.rd1 s1 0 _ rfl
  have hv1 := hv.weaken (ls' := [(b, .cells [pv, fv] 2 false)] :: ls) (fun h s => s.tail)
  simp -failIfUnchanged only [bindP_some_eq, bindP_none_eq, guardP_true_eq, asB_eq, bcase_true, bcase_false, allocK_some, runD_nil, guardT_bool, extV_tup, map_some_eq, Option.map_some, Option.map_none, fV_agg, fVA_agg, lenS_sl, lenS_slR, lenS_slN, lenStr_str, cvI_int, pickV_bool, nilCk_ptr, nilCk_ptrR, nilCk_func, nilCk_yield, nilCk_iface, nilCk_slR, nilCk_sl, nilCk_int, unV_not, unV_neg, binK_add, binK_sub, binK_mul, binK_eql, binK_neq, binK_lss, binK_leq, binK_gtr, binK_geq, chk_same, cond_true, cond_false, List.getElem?_cons_zero, List.getElem?_cons_succ, List.length_cons, List.length_nil, Nat.zero_add, Nat.add_zero, callVal_func, List.nil_append, List.append_nil, sem_call]
  refine bcase_dec (fun e0 => ?_) fun e0 => ?_
  · unfold J_plain_Progs3
    simp -failIfUnchanged only [bindP_some_eq, bindP_none_eq, guardP_true_eq, asB_eq, bcase_true, bcase_false, allocK_some, runD_nil, guardT_bool, extV_tup, map_some_eq, Option.map_some, Option.map_none, fV_agg, fVA_agg, lenS_sl, lenS_slR, lenS_slN, lenStr_str, cvI_int, pickV_bool, nilCk_ptr, nilCk_ptrR, nilCk_func, nilCk_yield, nilCk_iface, nilCk_slR, nilCk_sl, nilCk_int, unV_not, unV_neg, binK_add, binK_sub, binK_mul, binK_eql, binK_neq, binK_lss, binK_leq, binK_gtr, binK_geq, chk_same, cond_true, cond_false, List.getElem?_cons_zero, List.getElem?_cons_succ, List.length_cons, List.length_nil, Nat.zero_add, Nat.add_zero, callVal_func, List.nil_append, List.append_nil, sem_call]
    have := k h1 s1.tail
    rwa [if_neg (by omega)] at this
  · simp -failIfUnchanged only [bindP_some_eq, bindP_none_eq, guardP_true_eq, asB_eq, bcase_true, bcase_false, allocK_some, runD_nil, guardT_bool, extV_tup, map_some_eq, Option.map_some, Option.map_none, fV_agg, fVA_agg, lenS_sl, lenS_slR, lenS_slN, lenStr_str, cvI_int, pickV_bool, nilCk_ptr, nilCk_ptrR, nilCk_func, nilCk_yield, nilCk_iface, nilCk_slR, nilCk_sl, nilCk_int, unV_not, unV_neg, binK_add, binK_sub, binK_mul, binK_eql, binK_neq, binK_lss, binK_leq, binK_gtr, binK_geq, chk_same, cond_true, cond_false, List.getElem?_cons_zero, List.getElem?_cons_succ, List.length_cons, List.length_nil, Nat.zero_add, Nat.add_zero, callVal_func, List.nil_append, List.append_nil, sem_call, fa, b0, hv.len]
    unfold J_plain_Progs3
    simp -failIfUnchanged only [bindP_some_eq, bindP_none_eq, guardP_true_eq, asB_eq, bcase_true, bcase_false, allocK_some, runD_nil, guardT_bool, extV_tup, map_some_eq, Option.map_some, Option.map_none, fV_agg, fVA_agg, lenS_sl, lenS_slR, lenS_slN, lenStr_str, cvI_int, pickV_bool, nilCk_ptr, nilCk_ptrR, nilCk_func, nilCk_yield, nilCk_iface, nilCk_slR, nilCk_sl, nilCk_int, unV_not, unV_neg, binK_add, binK_sub, binK_mul, binK_eql, binK_neq, binK_lss, binK_leq, binK_gtr, binK_geq, chk_same, cond_true, cond_false, List.getElem?_cons_zero, List.getElem?_cons_succ, List.length_cons, List.length_nil, Nat.zero_add, Nat.add_zero, callVal_func, List.nil_append, List.append_nil, sem_call]
    have h0 : 0 ≤ part := by omega
    obtain ⟨q, rfl⟩ := Int.eq_ofNat_of_zero_le h0
    have kk := k h1 s1.tail
    rw [if_pos h0, Int.toNat_natCast] at kk
    refine bcase_dec (fun e1 => ?_) fun e1 => ?_
    · rw [List.getElem?_eq_none (by omega)] at kk
      exact kk
    · have hq : q < l.length := by omega
      obtain ⟨x, hx⟩ : ∃ x, l[q]? = some x := ⟨_, List.getElem?_eq_getElem hq⟩
      unfold J_plain_Progs5
      have e2 := (hv1.el q x hx).rd1 s1 0 _ rfl
      have ha : addA (elemA 1 pv q) 0 = elemA 1 pv q := by cases pv <;> rfl
      rw [ha] at e2
      simp -failIfUnchanged only [bindP_some_eq, bindP_none_eq, guardP_true_eq, asB_eq, bcase_true, bcase_false, allocK_some, runD_nil, guardT_bool, extV_tup, map_some_eq, Option.map_some, Option.map_none, fV_agg, fVA_agg, lenS_sl, lenS_slR, lenS_slN, lenStr_str, cvI_int, pickV_bool, nilCk_ptr, nilCk_ptrR, nilCk_func, nilCk_yield, nilCk_iface, nilCk_slR, nilCk_sl, nilCk_int, unV_not, unV_neg, binK_add, binK_sub, binK_mul, binK_eql, binK_neq, binK_lss, binK_leq, binK_gtr, binK_geq, chk_same, cond_true, cond_false, List.getElem?_cons_zero, List.getElem?_cons_succ, List.length_cons, List.length_nil, Nat.zero_add, Nat.add_zero, callVal_func, List.nil_append, List.append_nil, sem_call, fa, b0, hv.ix q hq, e2]
      rw [hx] at kk
      exact kk

theorem works_spec {d : Nat} (hd : 1 ≤ d) {h : H} {Q : Post} (k : Q (.bool true) h) : callW prog ws d f_law25_works [] h Q := by
  obtain ⟨d, rfl⟩ : ∃ e, d = e + 1 := ⟨d - 1, by omega⟩
  have : callW prog ws (d + 1) f_law25_works [] h Q = Q (.bool true) h := by kernel_rfl
  rw [this]
  exact k
end Am

/-
Is a configuration short?
-/
namespace Am
open Go

structure PartConf.Short (p : PartConf) : Prop where
  regions : p.regions.l.length ≤ 100
  procs : p.procs.l.length ≤ 100
  ports : p.ports.l.length ≤ 100
  sems : p.sems.l.length ≤ 100
  pools : p.pools.l.length ≤ 100
  slates : p.slates.l.length ≤ 100
  acts : p.acts.l.length ≤ 100
structure Config.Short (c : Config) : Prop where
  parts : c.parts.l.length ≤ 100
  chans : c.chans.l.length ≤ 100
  modes : c.modes.l.length ≤ 100
  levels : c.power.levels.l.length ≤ 100
  naps : c.power.naps.l.length ≤ 100
  down : c.shed.down.l.length ≤ 100
  up : c.shed.up.l.length ≤ 100
  part : ∀ p ∈ c.parts.l, p.Short
  mode : ∀ m ∈ c.modes.l, m.windows.l.length ≤ 100

theorem encPart_len (x : PartConf) : (encPart x).length = 11 := rfl
theorem encMode_len (x : Mode) : (encMode x).length = 2 := rfl
theorem encRegion_len (x : Region) : (encRegion x).length = 3 := rfl
theorem encProc_len (x : ProcConf) : (encProc x).length = 3 := rfl
theorem encPort_len (x : PortConf) : (encPort x).length = 4 := rfl
theorem encSem_len (x : SemConf) : (encSem x).length = 2 := rfl
theorem encPool_len (x : PoolConf) : (encPool x).length = 2 := rfl
theorem encWindow_len (x : Window) : (encWindow x).length = 3 := rfl
theorem encLevel_len (x : Level) : (encLevel x).length = 2 := rfl
theorem encNap_len (x : Nap) : (encNap x).length = 3 := rfl
theorem encStep_len (x : PStep) : (encStep x).length = 6 := rfl
theorem encFrame_len (x : Frame) : (encFrame x).length = 4 := rfl
theorem encBound_len (x : Bound) : (encBound x).length = 3 := rfl

theorem lenSl {α : Type} (es : Nat) {enc : α → List V} (he : ∀ x, (enc x).length = es) (s : GSl α) : lenS (encSl enc s) = some (I s.l.length) := (s.rd [] he).len

theorem At.part {ls : List (List Blk)} {a : V} {e : PartConf} {h : H} (x : At ls a (encPart e)) (s : St ls h) :
    (∀ j, fA j a = some (addA a j)) ∧ ld (addA a 0) h = some (encSl encRegion e.regions) ∧ ld (addA a 1) h = some (encSl encProc e.procs) ∧ ld (addA a 2) h = some (encSl encPort e.ports) ∧ ld (addA a 3) h = some (encSl encSem e.sems) ∧ ld (addA a 4) h = some (I e.flags) ∧
      ld (addA a 5) h = some (encSl encPool e.pools) ∧ ld (addA a 6) h = some (encSl encInt e.slates) ∧ ld (addA a 7) h = some (I e.cap) ∧ ld (addA a 8) h = some (I e.budget) ∧ ld (addA a 9) h = some (I e.ladder) ∧ ld (addA a 10) h = some (encSl encInt e.acts) ∧ ldA 11 a h = some (.agg (encPart e)) :=
  ⟨x.fld, x.rd1 s 0 _ rfl, x.rd1 s 1 _ rfl, x.rd1 s 2 _ rfl, x.rd1 s 3 _ rfl, x.rd1 s 4 _ rfl, x.rd1 s 5 _ rfl, x.rd1 s 6 _ rfl, x.rd1 s 7 _ rfl, x.rd1 s 8 _ rfl, x.rd1 s 9 _ rfl, x.rd1 s 10 _ rfl, x.whole s 11 rfl⟩
theorem At.mode {ls : List (List Blk)} {a : V} {e : Mode} {h : H} (x : At ls a (encMode e)) (s : St ls h) :
    (∀ j, fA j a = some (addA a j)) ∧ ld (addA a 0) h = some (I e.frame) ∧ ld (addA a 1) h = some (encSl encWindow e.windows) ∧ ldA 2 a h = some (.agg (encMode e)) :=
  ⟨x.fld, x.rd1 s 0 _ rfl, x.rd1 s 1 _ rfl, x.whole s 2 rfl⟩
theorem At.fld2 {ls : List (List Blk)} {a : V} {cs : List V} (x : At ls a cs) (i j : Nat) : fA j (addA a i) = some (addA a (i + j)) := by rw [fA_addr (addA_addr x.addr i), addA_add]

theorem ref08_Short_spec {d : Nat} (hd : 1 ≤ d) {ls : List (List Blk)} {h : H} {c : Config} (s : St ls h)
    {Q : Post} (k : ∀ (b : Bool) (h' : H), (b = true ↔ c.Short) → St ls h' → Q (.bool b) h') : callW prog ws d f_ref08_Short [.agg (encConfig c)] h Q := by
  obtain ⟨d, rfl⟩ : ∃ e, d = e + 1 := ⟨d - 1, by omega⟩
  rw [u_ref08_Short]
  refine box_at s 13 rfl fun b h1 s1 => ?_
  have hat : At ([(b, .cells (encConfig c) 13 false)] :: ls) (.ptr b 0) (encConfig c) := At.row0 ls b (encConfig c) 13 false
  have f1 := hat.fld
  have f2 := hat.fld2
  have c0 := fun h s => hat.rd1 (h := h) s 0 _ rfl
  have c1 := hat.rd1 s1 1 _ rfl
  have c2 := fun h s => hat.rd1 (h := h) s 2 _ rfl
  have c3 := hat.rd1 s1 3 _ rfl
  have c4 := hat.rd1 s1 4 _ rfl
  have c11 := hat.rd1 s1 11 _ rfl
  have c12 := hat.rd1 s1 12 _ rfl
  have hF : ∀ h, St ([(b, .cells (encConfig c) 13 false)] :: ls) h → ¬ c.Short → Q (.bool false) h := fun h s hn => k false h ⟨fun x => (by cases x), fun x => absurd x hn⟩ s.tail
  have hJ : ∀ x : Bool, (x = true → ¬ c.Short) → (x = false → c.parts.l.length ≤ 100 ∧ c.chans.l.length ≤ 100 ∧ c.modes.l.length ≤ 100 ∧ c.power.levels.l.length ≤ 100 ∧ c.power.naps.l.length ≤ 100 ∧ c.shed.down.l.length ≤ 100 ∧ c.shed.up.l.length ≤ 100) →
      J_ref08_Short6 d Q (.ptr b 0) (.bool false) (.bool x) [] h1 := by
    intro x hx hx'
    unfold J_ref08_Short6
    simp -failIfUnchanged only [bindP_some_eq, bindP_none_eq, guardP_true_eq, asB_eq, bcase_true, bcase_false, allocK_some, runD_nil, guardT_bool, extV_tup, map_some_eq, Option.map_some, Option.map_none, fV_agg, fVA_agg, lenS_sl, lenS_slR, lenS_slN, lenStr_str, cvI_int, pickV_bool, nilCk_ptr, nilCk_ptrR, nilCk_func, nilCk_yield, nilCk_iface, nilCk_slR, nilCk_sl, nilCk_int, unV_not, unV_neg, binK_add, binK_sub, binK_mul, binK_eql, binK_neq, binK_lss, binK_leq, binK_gtr, binK_geq, chk_same, cond_true, cond_false, List.getElem?_cons_zero, List.getElem?_cons_succ, List.length_cons, List.length_nil, Nat.zero_add, Nat.add_zero, callVal_func, List.nil_append, List.append_nil, sem_call]
    refine bcase_of (fun e => hF h1 s1 (hx e)) fun e => ?_
    obtain ⟨l0, l1, l2, l3, l4, l5, l6⟩ := hx' e
    unfold J_ref08_Short8
    -- the modes
    have modes : ∀ h, St ([(b, .cells (encConfig c) 13 false)] :: ls) h → (∀ p ∈ c.parts.l, p.Short) → J_ref08_Short10 d Q (.ptr b 0) (.bool false) [] h := by
      intro h s hp
      unfold J_ref08_Short10
      suffices key : ∀ (n i : Nat), i ≤ c.modes.l.length → c.modes.l.length - i < n → (∀ m ∈ c.modes.l.take i, m.windows.l.length ≤ 100) → L_ref08_Short11 d Q n (.ptr b 0) (.bool false) (I i) [] h from
        key fuel 0 (Nat.zero_le _) (fuel_lt (by omega)) (by simp)
      intro n
      induction n with
      | zero => intro i _ h2; omega
      | succ n ih =>
        intro i g1 g2 g3
        rw [L_ref08_Short11_succ]
        unfold S_ref08_Short11
        have cc2 := c2 h s
        have hm := c.modes.rd ([(b, .cells (encConfig c) 13 false)] :: ls) encMode_len
        simp -failIfUnchanged only [bindP_some_eq, bindP_none_eq, guardP_true_eq, asB_eq, bcase_true, bcase_false, allocK_some, runD_nil, guardT_bool, extV_tup, map_some_eq, Option.map_some, Option.map_none, fV_agg, fVA_agg, lenS_sl, lenS_slR, lenS_slN, lenStr_str, cvI_int, pickV_bool, nilCk_ptr, nilCk_ptrR, nilCk_func, nilCk_yield, nilCk_iface, nilCk_slR, nilCk_sl, nilCk_int, unV_not, unV_neg, binK_add, binK_sub, binK_mul, binK_eql, binK_neq, binK_lss, binK_leq, binK_gtr, binK_geq, chk_same, cond_true, cond_false, List.getElem?_cons_zero, List.getElem?_cons_succ, List.length_cons, List.length_nil, Nat.zero_add, Nat.add_zero, callVal_func, List.nil_append, List.append_nil, sem_call, f1, cc2, hm.len]
        refine bcase_dec (fun hi => ?_) fun hi => ?_
        · have hi : i < c.modes.l.length := by omega
          obtain ⟨m, he⟩ : ∃ a, c.modes.l[i]? = some a := ⟨_, List.getElem?_eq_getElem hi⟩
          obtain ⟨fm, _, m1, _⟩ := (hm.el i m he).mode s
          unfold J_ref08_Short18
          simp -failIfUnchanged only [bindP_some_eq, bindP_none_eq, guardP_true_eq, asB_eq, bcase_true, bcase_false, allocK_some, runD_nil, guardT_bool, extV_tup, map_some_eq, Option.map_some, Option.map_none, fV_agg, fVA_agg, lenS_sl, lenS_slR, lenS_slN, lenStr_str, cvI_int, pickV_bool, nilCk_ptr, nilCk_ptrR, nilCk_func, nilCk_yield, nilCk_iface, nilCk_slR, nilCk_sl, nilCk_int, unV_not, unV_neg, binK_add, binK_sub, binK_mul, binK_eql, binK_neq, binK_lss, binK_leq, binK_gtr, binK_geq, chk_same, cond_true, cond_false, List.getElem?_cons_zero, List.getElem?_cons_succ, List.length_cons, List.length_nil, Nat.zero_add, Nat.add_zero, callVal_func, List.nil_append, List.append_nil, sem_call, f1, cc2, hm.ix i hi, fm, m1, lenSl 3 encWindow_len]
          refine bcase_dec (fun hp => hF h s fun x => ?_) fun hp => ?_
          · have := x.mode m (List.mem_of_getElem? he)
            omega
          · unfold J_ref08_Short27
            simp -failIfUnchanged only [bindP_some_eq, bindP_none_eq, guardP_true_eq, asB_eq, bcase_true, bcase_false, allocK_some, runD_nil, guardT_bool, extV_tup, map_some_eq, Option.map_some, Option.map_none, fV_agg, fVA_agg, lenS_sl, lenS_slR, lenS_slN, lenStr_str, cvI_int, pickV_bool, nilCk_ptr, nilCk_ptrR, nilCk_func, nilCk_yield, nilCk_iface, nilCk_slR, nilCk_sl, nilCk_int, unV_not, unV_neg, binK_add, binK_sub, binK_mul, binK_eql, binK_neq, binK_lss, binK_leq, binK_gtr, binK_geq, chk_same, cond_true, cond_false, List.getElem?_cons_zero, List.getElem?_cons_succ, List.length_cons, List.length_nil, Nat.zero_add, Nat.add_zero, callVal_func, List.nil_append, List.append_nil, sem_call]
            rw [wrap64 (by omega) (by omega)]
            refine ih (i + 1) (by omega) (by omega) ?_
            rw [List.take_add_one, he]
            intro y hy
            rcases List.mem_append.1 hy with hy | hy
            · exact g3 y hy
            · have : y = m := by simpa using hy
              subst this
              omega
        · unfold J_ref08_Short12
          simp -failIfUnchanged only [bindP_some_eq, bindP_none_eq, guardP_true_eq, asB_eq, bcase_true, bcase_false, allocK_some, runD_nil, guardT_bool, extV_tup, map_some_eq, Option.map_some, Option.map_none, fV_agg, fVA_agg, lenS_sl, lenS_slR, lenS_slN, lenStr_str, cvI_int, pickV_bool, nilCk_ptr, nilCk_ptrR, nilCk_func, nilCk_yield, nilCk_iface, nilCk_slR, nilCk_sl, nilCk_int, unV_not, unV_neg, binK_add, binK_sub, binK_mul, binK_eql, binK_neq, binK_lss, binK_leq, binK_gtr, binK_geq, chk_same, cond_true, cond_false, List.getElem?_cons_zero, List.getElem?_cons_succ, List.length_cons, List.length_nil, Nat.zero_add, Nat.add_zero, callVal_func, List.nil_append, List.append_nil, sem_call]
          have : i = c.modes.l.length := by omega
          subst this
          rw [List.take_length] at g3
          exact k true h ⟨fun _ => ⟨l0, l1, l2, l3, l4, l5, l6, hp, g3⟩, fun _ => rfl⟩ s.tail
    suffices key : ∀ (n i : Nat) (h : H), i ≤ c.parts.l.length → c.parts.l.length - i < n → (∀ p ∈ c.parts.l.take i, p.Short) → St ([(b, .cells (encConfig c) 13 false)] :: ls) h → L_ref08_Short9 d Q n (.ptr b 0) (.bool false) (I i) [] h from
      key fuel 0 h1 (Nat.zero_le _) (fuel_lt (by omega)) (by simp) s1
    intro n
    induction n with
    | zero => intro i h _ h2; omega
    | succ n ih =>
      intro i h g1 g2 g3 s
      rw [L_ref08_Short9_succ]
      unfold S_ref08_Short9
      have cc0 := c0 h s
      have hp := c.parts.rd ([(b, .cells (encConfig c) 13 false)] :: ls) encPart_len
      simp -failIfUnchanged only [bindP_some_eq, bindP_none_eq, guardP_true_eq, asB_eq, bcase_true, bcase_false, allocK_some, runD_nil, guardT_bool, extV_tup, map_some_eq, Option.map_some, Option.map_none, fV_agg, fVA_agg, lenS_sl, lenS_slR, lenS_slN, lenStr_str, cvI_int, pickV_bool, nilCk_ptr, nilCk_ptrR, nilCk_func, nilCk_yield, nilCk_iface, nilCk_slR, nilCk_sl, nilCk_int, unV_not, unV_neg, binK_add, binK_sub, binK_mul, binK_eql, binK_neq, binK_lss, binK_leq, binK_gtr, binK_geq, chk_same, cond_true, cond_false, List.getElem?_cons_zero, List.getElem?_cons_succ, List.length_cons, List.length_nil, Nat.zero_add, Nat.add_zero, callVal_func, List.nil_append, List.append_nil, sem_call, f1, cc0, hp.len]
      refine bcase_dec (fun hi => ?_) fun hi => ?_
      · have hi : i < c.parts.l.length := by omega
        obtain ⟨p, he⟩ : ∃ a, c.parts.l[i]? = some a := ⟨_, List.getElem?_eq_getElem hi⟩
        obtain ⟨_, _, _, _, _, _, _, _, _, _, _, _, pw⟩ := (hp.el i p he).part s
        unfold J_ref08_Short34
        simp -failIfUnchanged only [bindP_some_eq, bindP_none_eq, guardP_true_eq, asB_eq, bcase_true, bcase_false, allocK_some, runD_nil, guardT_bool, extV_tup, map_some_eq, Option.map_some, Option.map_none, fV_agg, fVA_agg, lenS_sl, lenS_slR, lenS_slN, lenStr_str, cvI_int, pickV_bool, nilCk_ptr, nilCk_ptrR, nilCk_func, nilCk_yield, nilCk_iface, nilCk_slR, nilCk_sl, nilCk_int, unV_not, unV_neg, binK_add, binK_sub, binK_mul, binK_eql, binK_neq, binK_lss, binK_leq, binK_gtr, binK_geq, chk_same, cond_true, cond_false, List.getElem?_cons_zero, List.getElem?_cons_succ, List.length_cons, List.length_nil, Nat.zero_add, Nat.add_zero, callVal_func, List.nil_append, List.append_nil, sem_call, f1, cc0, hp.ix i hi, pw]
        refine local_at s rfl rfl fun b2 h2 s2 => ?_
        obtain ⟨fp, p0, p1, p2, p3, _, p5, p6, _, _, _, p10, _⟩ := (At.row0 ([(b, .cells (encConfig c) 13 false)] :: ls) b2 (encPart p) 11 false).part s2
        have hpm := List.mem_of_getElem? he
        have hJ : ∀ x : Bool, (x = true → ¬ p.Short) → (x = false → p.Short) → J_ref08_Short45 d Q (L_ref08_Short9 d Q n) (.ptr b 0) (.bool false) (I i) (.bool x) [] h2 := by
          intro x hx hx'
          unfold J_ref08_Short45
          simp -failIfUnchanged only [bindP_some_eq, bindP_none_eq, guardP_true_eq, asB_eq, bcase_true, bcase_false, allocK_some, runD_nil, guardT_bool, extV_tup, map_some_eq, Option.map_some, Option.map_none, fV_agg, fVA_agg, lenS_sl, lenS_slR, lenS_slN, lenStr_str, cvI_int, pickV_bool, nilCk_ptr, nilCk_ptrR, nilCk_func, nilCk_yield, nilCk_iface, nilCk_slR, nilCk_sl, nilCk_int, unV_not, unV_neg, binK_add, binK_sub, binK_mul, binK_eql, binK_neq, binK_lss, binK_leq, binK_gtr, binK_geq, chk_same, cond_true, cond_false, List.getElem?_cons_zero, List.getElem?_cons_succ, List.length_cons, List.length_nil, Nat.zero_add, Nat.add_zero, callVal_func, List.nil_append, List.append_nil, sem_call]
          refine bcase_of (fun e => hF h2 s2.tail fun y => hx e (y.part p hpm)) fun e => ?_
          unfold J_ref08_Short47
          simp -failIfUnchanged only [bindP_some_eq, bindP_none_eq, guardP_true_eq, asB_eq, bcase_true, bcase_false, allocK_some, runD_nil, guardT_bool, extV_tup, map_some_eq, Option.map_some, Option.map_none, fV_agg, fVA_agg, lenS_sl, lenS_slR, lenS_slN, lenStr_str, cvI_int, pickV_bool, nilCk_ptr, nilCk_ptrR, nilCk_func, nilCk_yield, nilCk_iface, nilCk_slR, nilCk_sl, nilCk_int, unV_not, unV_neg, binK_add, binK_sub, binK_mul, binK_eql, binK_neq, binK_lss, binK_leq, binK_gtr, binK_geq, chk_same, cond_true, cond_false, List.getElem?_cons_zero, List.getElem?_cons_succ, List.length_cons, List.length_nil, Nat.zero_add, Nat.add_zero, callVal_func, List.nil_append, List.append_nil, sem_call]
          rw [wrap64 (by omega) (by omega)]
          refine ih (i + 1) h2 (by omega) (by omega) ?_ s2.tail
          rw [List.take_add_one, he]
          intro y hy
          rcases List.mem_append.1 hy with hy | hy
          · exact g3 y hy
          · have : y = p := by simpa using hy
            subst this
            exact hx' e
        simp -failIfUnchanged only [bindP_some_eq, bindP_none_eq, guardP_true_eq, asB_eq, bcase_true, bcase_false, allocK_some, runD_nil, guardT_bool, extV_tup, map_some_eq, Option.map_some, Option.map_none, fV_agg, fVA_agg, lenS_sl, lenS_slR, lenS_slN, lenStr_str, cvI_int, pickV_bool, nilCk_ptr, nilCk_ptrR, nilCk_func, nilCk_yield, nilCk_iface, nilCk_slR, nilCk_sl, nilCk_int, unV_not, unV_neg, binK_add, binK_sub, binK_mul, binK_eql, binK_neq, binK_lss, binK_leq, binK_gtr, binK_geq, chk_same, cond_true, cond_false, List.getElem?_cons_zero, List.getElem?_cons_succ, List.length_cons, List.length_nil, Nat.zero_add, Nat.add_zero, callVal_func, List.nil_append, List.append_nil, sem_call, fp, p0, p1, p2, p3, p5, p6, p10, lenSl 3 encRegion_len, lenSl 3 encProc_len, lenSl 4 encPort_len, lenSl 2 encSem_len, lenSl 2 encPool_len, lenSl 1 encInt_len]
        refine bcase_dec (fun e => hJ true (fun _ x => by have := x.regions; omega) (fun x => by cases x)) fun e0 => ?_
        refine bcase_dec (fun e => hJ true (fun _ x => by have := x.procs; omega) (fun x => by cases x)) fun e1 => ?_
        refine bcase_dec (fun e => hJ true (fun _ x => by have := x.ports; omega) (fun x => by cases x)) fun e2 => ?_
        refine bcase_dec (fun e => hJ true (fun _ x => by have := x.sems; omega) (fun x => by cases x)) fun e3 => ?_
        refine bcase_dec (fun e => hJ true (fun _ x => by have := x.pools; omega) (fun x => by cases x)) fun e4 => ?_
        refine bcase_dec (fun e => hJ true (fun _ x => by have := x.slates; omega) (fun x => by cases x)) fun e5 => ?_
        refine hJ _ (fun e x => ?_) fun e => ?_
        · have := x.acts
          have := of_decide_eq_true e
          omega
        · have := of_decide_eq_false e
          exact ⟨by omega, by omega, by omega, by omega, by omega, by omega, by omega⟩
      · have : i = c.parts.l.length := by omega
        subst this
        rw [List.take_length] at g3
        exact modes h s g3
  simp -failIfUnchanged only [bindP_some_eq, bindP_none_eq, guardP_true_eq, asB_eq, bcase_true, bcase_false, allocK_some, runD_nil, guardT_bool, extV_tup, map_some_eq, Option.map_some, Option.map_none, fV_agg, fVA_agg, lenS_sl, lenS_slR, lenS_slN, lenStr_str, cvI_int, pickV_bool, nilCk_ptr, nilCk_ptrR, nilCk_func, nilCk_yield, nilCk_iface, nilCk_slR, nilCk_sl, nilCk_int, unV_not, unV_neg, binK_add, binK_sub, binK_mul, binK_eql, binK_neq, binK_lss, binK_leq, binK_gtr, binK_geq, chk_same, cond_true, cond_false, List.getElem?_cons_zero, List.getElem?_cons_succ, List.length_cons, List.length_nil, Nat.zero_add, Nat.add_zero, callVal_func, List.nil_append, List.append_nil, sem_call, f1, f2, c0 h1 s1, c1, c2 h1 s1, c3, c4, c11, c12, lenSl 11 encPart_len, lenSl 4 encChan_len, lenSl 2 encMode_len, lenSl 2 encLevel_len, lenSl 3 encNap_len, lenSl 1 encInt_len]
  refine bcase_dec (fun e => hJ true (fun _ x => by have := x.parts; omega) (fun x => by cases x)) fun e0 => ?_
  refine bcase_dec (fun e => hJ true (fun _ x => by have := x.chans; omega) (fun x => by cases x)) fun e1 => ?_
  refine bcase_dec (fun e => hJ true (fun _ x => by have := x.modes; omega) (fun x => by cases x)) fun e2 => ?_
  refine bcase_dec (fun e => hJ true (fun _ x => by have := x.levels; omega) (fun x => by cases x)) fun e3 => ?_
  refine bcase_dec (fun e => hJ true (fun _ x => by have := x.naps; omega) (fun x => by cases x)) fun e4 => ?_
  refine bcase_dec (fun e => hJ true (fun _ x => by have := x.down; omega) (fun x => by cases x)) fun e5 => ?_
  refine hJ _ (fun e x => ?_) fun e => ?_
  · have := x.up
    have := of_decide_eq_true e
    omega
  · have := of_decide_eq_false e
    exact ⟨by omega, by omega, by omega, by omega, by omega, by omega, by omega⟩
end Am

/-
The statement itself, of typed arguments.
-/
namespace Am
open Go

theorem At.result {ls : List (List Blk)} {a : V} {e : Result} {h : H} (x : At ls a (encResult e)) (s : St ls h) :
    (∀ j, fA j a = some (addA a j)) ∧ ld (addA a 0) h = some (encSl encEvent e.events) ∧ ld (addA a 1) h = some (encSl encMessage e.messages) :=
  ⟨x.fld, x.rd1 s 0 _ rfl, x.rd1 s 1 _ rfl⟩
theorem lenMsgs (x : GSl Message) : lenS (encSl encMessage x) = some (I x.l.length) := by
  have := (DMsg.arg [] x).rd.len
  rwa [List.length_map] at this

theorem PlainParts_am {d : Nat} (hd : 10 ≤ d) {h : H} {c : Config} {r : Result} {part : Int} (s : St [] h) :
    callW prog ws d f_law25_PlainParts [.agg (encConfig c), .agg (encResult r), I part] h (fun v _ => isTrue v) := by
  obtain ⟨d, rfl⟩ : ∃ e, d = e + 1 := ⟨d - 1, by omega⟩
  rw [u_law25_PlainParts]
  refine box_at s 13 rfl fun bc h1 s1 => ?_
  refine box_at s1 12 rfl fun br h2 s2 => ?_
  have hc : At ([(br, .cells (encResult r) 12 false)] :: [(bc, .cells (encConfig c) 13 false)] :: []) (.ptr bc 0) (encConfig c) := At.row 1 rfl
  have hr : At ([(br, .cells (encResult r) 12 false)] :: [(bc, .cells (encConfig c) 13 false)] :: []) (.ptr br 0) (encResult r) := At.row 0 rfl
  have cw := fun h s => (hc.config (h := h) s).2.2.2.2.2
  have fr := hr.fld
  have r0 := fun h s => hr.rd1 (h := h) s 0 _ rfl
  have r1 := fun h s => hr.rd1 (h := h) s 1 _ rfl
  simp -failIfUnchanged only [bindP_some_eq, bindP_none_eq, guardP_true_eq, asB_eq, bcase_true, bcase_false, allocK_some, runD_nil, guardT_bool, extV_tup, map_some_eq, Option.map_some, Option.map_none, fV_agg, fVA_agg, lenS_sl, lenS_slR, lenS_slN, lenStr_str, cvI_int, pickV_bool, nilCk_ptr, nilCk_ptrR, nilCk_func, nilCk_yield, nilCk_iface, nilCk_slR, nilCk_sl, nilCk_int, unV_not, unV_neg, binK_add, binK_sub, binK_mul, binK_eql, binK_neq, binK_lss, binK_leq, binK_gtr, binK_geq, chk_same, cond_true, cond_false, List.getElem?_cons_zero, List.getElem?_cons_succ, List.length_cons, List.length_nil, Nat.zero_add, Nat.add_zero, callVal_func, List.nil_append, List.append_nil, sem_call, cw h2 s2]
  refine ref08_Short_spec (by omega) s2 fun b h3 hb s3 => ?_
  simp -failIfUnchanged only [bindP_some_eq, bindP_none_eq, guardP_true_eq, asB_eq, bcase_true, bcase_false, allocK_some, runD_nil, guardT_bool, extV_tup, map_some_eq, Option.map_some, Option.map_none, fV_agg, fVA_agg, lenS_sl, lenS_slR, lenS_slN, lenStr_str, cvI_int, pickV_bool, nilCk_ptr, nilCk_ptrR, nilCk_func, nilCk_yield, nilCk_iface, nilCk_slR, nilCk_sl, nilCk_int, unV_not, unV_neg, binK_add, binK_sub, binK_mul, binK_eql, binK_neq, binK_lss, binK_leq, binK_gtr, binK_geq, chk_same, cond_true, cond_false, List.getElem?_cons_zero, List.getElem?_cons_succ, List.length_cons, List.length_nil, Nat.zero_add, Nat.add_zero, callVal_func, List.nil_append, List.append_nil, sem_call]
  have hJ : ∀ x : Bool, (x = false → r.events.l.length ≤ 300 ∧ r.messages.l.length ≤ 300) → J_law25_PlainParts6 d (fun v _ => isTrue v) (I part) (.ptr bc 0) (.ptr br 0) (.bool false) (.bool x) [] h3 := by
    intro x hx
    unfold J_law25_PlainParts6
    simp -failIfUnchanged only [bindP_some_eq, bindP_none_eq, guardP_true_eq, asB_eq, bcase_true, bcase_false, allocK_some, runD_nil, guardT_bool, extV_tup, map_some_eq, Option.map_some, Option.map_none, fV_agg, fVA_agg, lenS_sl, lenS_slR, lenS_slN, lenStr_str, cvI_int, pickV_bool, nilCk_ptr, nilCk_ptrR, nilCk_func, nilCk_yield, nilCk_iface, nilCk_slR, nilCk_sl, nilCk_int, unV_not, unV_neg, binK_add, binK_sub, binK_mul, binK_eql, binK_neq, binK_lss, binK_leq, binK_gtr, binK_geq, chk_same, cond_true, cond_false, List.getElem?_cons_zero, List.getElem?_cons_succ, List.length_cons, List.length_nil, Nat.zero_add, Nat.add_zero, callVal_func, List.nil_append, List.append_nil, sem_call]
    refine bcase_of (fun _ => ?_) fun e => ?_
    · refine works_spec (by omega) ?_
      simp -failIfUnchanged only [bindP_some_eq, bindP_none_eq, guardP_true_eq, asB_eq, bcase_true, bcase_false, allocK_some, runD_nil, guardT_bool, extV_tup, map_some_eq, Option.map_some, Option.map_none, fV_agg, fVA_agg, lenS_sl, lenS_slR, lenS_slN, lenStr_str, cvI_int, pickV_bool, nilCk_ptr, nilCk_ptrR, nilCk_func, nilCk_yield, nilCk_iface, nilCk_slR, nilCk_sl, nilCk_int, unV_not, unV_neg, binK_add, binK_sub, binK_mul, binK_eql, binK_neq, binK_lss, binK_leq, binK_gtr, binK_geq, chk_same, cond_true, cond_false, List.getElem?_cons_zero, List.getElem?_cons_succ, List.length_cons, List.length_nil, Nat.zero_add, Nat.add_zero, callVal_func, List.nil_append, List.append_nil, sem_call]
      trivial
    obtain ⟨l0, l1⟩ := hx e
    unfold J_law25_PlainParts9
    suffices key : ∀ (n i : Nat), i ≤ r.messages.l.length → r.messages.l.length - i < n → (∀ m ∈ r.messages.l.take i, m.data.l.length ≤ 100) →
        L_law25_PlainParts10 d (fun v _ => isTrue v) n (I part) (.ptr bc 0) (.ptr br 0) (.bool false) (I i) [] h3 from
      key fuel 0 (Nat.zero_le _) (fuel_lt (by omega)) (by simp)
    intro n
    induction n with
    | zero => intro i _ h2; omega
    | succ n ih =>
      intro i g1 g2 g3
      rw [L_law25_PlainParts10_succ]
      unfold S_law25_PlainParts10
      simp -failIfUnchanged only [bindP_some_eq, bindP_none_eq, guardP_true_eq, asB_eq, bcase_true, bcase_false, allocK_some, runD_nil, guardT_bool, extV_tup, map_some_eq, Option.map_some, Option.map_none, fV_agg, fVA_agg, lenS_sl, lenS_slR, lenS_slN, lenStr_str, cvI_int, pickV_bool, nilCk_ptr, nilCk_ptrR, nilCk_func, nilCk_yield, nilCk_iface, nilCk_slR, nilCk_sl, nilCk_int, unV_not, unV_neg, binK_add, binK_sub, binK_mul, binK_eql, binK_neq, binK_lss, binK_leq, binK_gtr, binK_geq, chk_same, cond_true, cond_false, List.getElem?_cons_zero, List.getElem?_cons_succ, List.length_cons, List.length_nil, Nat.zero_add, Nat.add_zero, callVal_func, List.nil_append, List.append_nil, sem_call, fr, r1 h3 s3, lenMsgs]
      have hm := DMsg.arg ([(br, .cells (encResult r) 12 false)] :: [(bc, .cells (encConfig c) 13 false)] :: []) r.messages
      refine bcase_dec (fun hi => ?_) fun hi => ?_
      · have hi : i < r.messages.l.length := by omega
        obtain ⟨m, he⟩ : ∃ a, r.messages.l[i]? = some a := ⟨_, List.getElem?_eq_getElem hi⟩
        have her : (r.messages.l.map Message.v)[i]? = some m.v := by rw [List.getElem?_map, he]; rfl
        have hem : (r.messages.l.map Message.m)[i]? = some m.m := by rw [List.getElem?_map, he]; rfl
        obtain ⟨fm, _, _, m2, _⟩ := (hm.rd.el i m.v her).msg s3
        obtain ⟨_, _, md⟩ := hm.el i m.v m.m her hem
        unfold J_law25_PlainParts50
        simp -failIfUnchanged only [bindP_some_eq, bindP_none_eq, guardP_true_eq, asB_eq, bcase_true, bcase_false, allocK_some, runD_nil, guardT_bool, extV_tup, map_some_eq, Option.map_some, Option.map_none, fV_agg, fVA_agg, lenS_sl, lenS_slR, lenS_slN, lenStr_str, cvI_int, pickV_bool, nilCk_ptr, nilCk_ptrR, nilCk_func, nilCk_yield, nilCk_iface, nilCk_slR, nilCk_sl, nilCk_int, unV_not, unV_neg, binK_add, binK_sub, binK_mul, binK_eql, binK_neq, binK_lss, binK_leq, binK_gtr, binK_geq, chk_same, cond_true, cond_false, List.getElem?_cons_zero, List.getElem?_cons_succ, List.length_cons, List.length_nil, Nat.zero_add, Nat.add_zero, callVal_func, List.nil_append, List.append_nil, sem_call, fr, r1 h3 s3, hm.rd.ix i (by rw [List.length_map]; exact hi), fm, m2, md.len]
        refine bcase_dec (fun hp => ?_) fun hp => ?_
        · refine works_spec (by omega) ?_
          simp -failIfUnchanged only [bindP_some_eq, bindP_none_eq, guardP_true_eq, asB_eq, bcase_true, bcase_false, allocK_some, runD_nil, guardT_bool, extV_tup, map_some_eq, Option.map_some, Option.map_none, fV_agg, fVA_agg, lenS_sl, lenS_slR, lenS_slN, lenStr_str, cvI_int, pickV_bool, nilCk_ptr, nilCk_ptrR, nilCk_func, nilCk_yield, nilCk_iface, nilCk_slR, nilCk_sl, nilCk_int, unV_not, unV_neg, binK_add, binK_sub, binK_mul, binK_eql, binK_neq, binK_lss, binK_leq, binK_gtr, binK_geq, chk_same, cond_true, cond_false, List.getElem?_cons_zero, List.getElem?_cons_succ, List.length_cons, List.length_nil, Nat.zero_add, Nat.add_zero, callVal_func, List.nil_append, List.append_nil, sem_call]
          trivial
        · unfold J_law25_PlainParts60
          simp -failIfUnchanged only [bindP_some_eq, bindP_none_eq, guardP_true_eq, asB_eq, bcase_true, bcase_false, allocK_some, runD_nil, guardT_bool, extV_tup, map_some_eq, Option.map_some, Option.map_none, fV_agg, fVA_agg, lenS_sl, lenS_slR, lenS_slN, lenStr_str, cvI_int, pickV_bool, nilCk_ptr, nilCk_ptrR, nilCk_func, nilCk_yield, nilCk_iface, nilCk_slR, nilCk_sl, nilCk_int, unV_not, unV_neg, binK_add, binK_sub, binK_mul, binK_eql, binK_neq, binK_lss, binK_leq, binK_gtr, binK_geq, chk_same, cond_true, cond_false, List.getElem?_cons_zero, List.getElem?_cons_succ, List.length_cons, List.length_nil, Nat.zero_add, Nat.add_zero, callVal_func, List.nil_append, List.append_nil, sem_call]
          rw [wrap64 (by omega) (by omega)]
          refine ih (i + 1) (by omega) (by omega) ?_
          rw [List.take_add_one, he]
          intro y hy
          rcases List.mem_append.1 hy with hy | hy
          · exact g3 y hy
          · have : y = m := by simpa using hy
            subst this
            have : y.m.data.length = y.data.l.length := rfl
            omega
      · have : i = r.messages.l.length := by omega
        subst this
        rw [List.take_length] at g3
        clear ih hi
        unfold J_law25_PlainParts11
        have e1 : msl 1 [.slN] (.int .i64 2) (.int .i64 2) = some (.cells [.slN, .slN] 1 false, fun b => .sl b 0 2 none 1) := rfl
        rw [e1]
        refine allocK_at s3 fun b1 h4 s4 => ?_
        have e2 : fillV [.slN, .slN] [(0, 1, V.sl b1 0 2 none 1)] = some (.agg [V.sl b1 0 2 none 1, .slN]) := rfl
        simp -failIfUnchanged only [bindP_some_eq, bindP_none_eq, guardP_true_eq, asB_eq, bcase_true, bcase_false, allocK_some, runD_nil, guardT_bool, extV_tup, map_some_eq, Option.map_some, Option.map_none, fV_agg, fVA_agg, lenS_sl, lenS_slR, lenS_slN, lenStr_str, cvI_int, pickV_bool, nilCk_ptr, nilCk_ptrR, nilCk_func, nilCk_yield, nilCk_iface, nilCk_slR, nilCk_sl, nilCk_int, unV_not, unV_neg, binK_add, binK_sub, binK_mul, binK_eql, binK_neq, binK_lss, binK_leq, binK_gtr, binK_geq, chk_same, cond_true, cond_false, List.getElem?_cons_zero, List.getElem?_cons_succ, List.length_cons, List.length_nil, Nat.zero_add, Nat.add_zero, callVal_func, List.nil_append, List.append_nil, sem_call, e2]
        refine local_at s4 rfl rfl fun b2 h5 s5 => ?_
        have hs : At ([(b2, .cells [V.sl b1 0 2 none 1, .slN] 2 false)] :: [(b1, .cells [.slN, .slN] 1 false)] :: [(br, .cells (encResult r) 12 false)] :: [(bc, .cells (encConfig c) 13 false)] :: []) (.ptr b2 0) [V.sl b1 0 2 none 1, .slN] := At.row 0 rfl
        simp -failIfUnchanged only [bindP_some_eq, bindP_none_eq, guardP_true_eq, asB_eq, bcase_true, bcase_false, allocK_some, runD_nil, guardT_bool, extV_tup, map_some_eq, Option.map_some, Option.map_none, fV_agg, fVA_agg, lenS_sl, lenS_slR, lenS_slN, lenStr_str, cvI_int, pickV_bool, nilCk_ptr, nilCk_ptrR, nilCk_func, nilCk_yield, nilCk_iface, nilCk_slR, nilCk_sl, nilCk_int, unV_not, unV_neg, binK_add, binK_sub, binK_mul, binK_eql, binK_neq, binK_lss, binK_leq, binK_gtr, binK_geq, chk_same, cond_true, cond_false, List.getElem?_cons_zero, List.getElem?_cons_succ, List.length_cons, List.length_nil, Nat.zero_add, Nat.add_zero, callVal_func, List.nil_append, List.append_nil, sem_call, hs.fld, hs.rd1 s5 0 _ rfl]
        have e3 : bsl 1 [.slN, .slN] 2 [(0, .slN), (1, .slN)] = some (.cells [.slN, .slN] 1 false, fun b => .sl b 0 2 none 1) := rfl
        rw [e3]
        refine allocK_at s5 fun b3 h6 s6 => ?_
        have e4 : iA 1 (.sl b1 0 2 none 1) (.int .i64 1) = some (.ptr b1 1) := rfl
        simp -failIfUnchanged only [bindP_some_eq, bindP_none_eq, guardP_true_eq, asB_eq, bcase_true, bcase_false, allocK_some, runD_nil, guardT_bool, extV_tup, map_some_eq, Option.map_some, Option.map_none, fV_agg, fVA_agg, lenS_sl, lenS_slR, lenS_slN, lenStr_str, cvI_int, pickV_bool, nilCk_ptr, nilCk_ptrR, nilCk_func, nilCk_yield, nilCk_iface, nilCk_slR, nilCk_sl, nilCk_int, unV_not, unV_neg, binK_add, binK_sub, binK_mul, binK_eql, binK_neq, binK_lss, binK_leq, binK_gtr, binK_geq, chk_same, cond_true, cond_false, List.getElem?_cons_zero, List.getElem?_cons_succ, List.length_cons, List.length_nil, Nat.zero_add, Nat.add_zero, callVal_func, List.nil_append, List.append_nil, sem_call, e4]
        refine store_at s6 2 rfl (by decide) rfl fun h7 s7 => ?_
        have s7 : St ([(b3, .cells [.slN, .slN] 1 false)] :: [(b2, .cells [V.sl b1 0 2 none 1, .slN] 2 false)] :: [(b1, .cells [.slN, V.sl b3 0 2 none 1] 1 false)] :: [(br, .cells (encResult r) 12 false)] :: [(bc, .cells (encConfig c) 13 false)] :: []) h7 := s7
        generalize hls : ([(b3, .cells [.slN, .slN] 1 false)] :: [(b2, .cells [V.sl b1 0 2 none 1, .slN] 2 false)] :: [(b1, .cells [.slN, V.sl b3 0 2 none 1] 1 false)] :: [(br, .cells (encResult r) 12 false)] :: [(bc, .cells (encConfig c) 13 false)] :: [] : List (List Blk)) = ls at s7
        have w : ∀ h, St ls h → St ([(br, .cells (encResult r) 12 false)] :: [(bc, .cells (encConfig c) 13 false)] :: []) h := fun h s => by rw [← hls] at s; exact s.tail.tail.tail
        have hev := r.events.rd ls encEvent_len
        have hm := DMsg.arg ls r.messages
        have hprogs : RdT ls 1 encV (.sl b1 0 2 none 1) [.slN, V.sl b3 0 2 none 1] := ⟨Rd.blockAll (b := b1) (g := false) (by rw [← hls]; simp [encV]) 2 none rfl, encV_len⟩
        have hag : ∀ h, St ls h → ldA 2 (.ptr b2 0) h = some (.agg [V.sl b1 0 2 none 1, .slN]) := fun h s => by
          have : At ls (.ptr b2 0) [V.sl b1 0 2 none 1, .slN] := by rw [← hls]; exact At.row 1 rfl
          exact this.whole s 2 rfl
        simp -failIfUnchanged only [bindP_some_eq, bindP_none_eq, guardP_true_eq, asB_eq, bcase_true, bcase_false, allocK_some, runD_nil, guardT_bool, extV_tup, map_some_eq, Option.map_some, Option.map_none, fV_agg, fVA_agg, lenS_sl, lenS_slR, lenS_slN, lenStr_str, cvI_int, pickV_bool, nilCk_ptr, nilCk_ptrR, nilCk_func, nilCk_yield, nilCk_iface, nilCk_slR, nilCk_sl, nilCk_int, unV_not, unV_neg, binK_add, binK_sub, binK_mul, binK_eql, binK_neq, binK_lss, binK_leq, binK_gtr, binK_geq, chk_same, cond_true, cond_false, List.getElem?_cons_zero, List.getElem?_cons_succ, List.length_cons, List.length_nil, Nat.zero_add, Nat.add_zero, callVal_func, List.nil_append, List.append_nil, sem_call, fr, r0 h7 (w h7 s7)]
        refine plain_Of_spec (by omega) s7 hev (by rw [most_eq]; omega) fun v1 row1 h8 a1 s8 => ?_
        simp -failIfUnchanged only [bindP_some_eq, bindP_none_eq, guardP_true_eq, asB_eq, bcase_true, bcase_false, allocK_some, runD_nil, guardT_bool, extV_tup, map_some_eq, Option.map_some, Option.map_none, fV_agg, fVA_agg, lenS_sl, lenS_slR, lenS_slN, lenStr_str, cvI_int, pickV_bool, nilCk_ptr, nilCk_ptrR, nilCk_func, nilCk_yield, nilCk_iface, nilCk_slR, nilCk_sl, nilCk_int, unV_not, unV_neg, binK_add, binK_sub, binK_mul, binK_eql, binK_neq, binK_lss, binK_leq, binK_gtr, binK_geq, chk_same, cond_true, cond_false, List.getElem?_cons_zero, List.getElem?_cons_succ, List.length_cons, List.length_nil, Nat.zero_add, Nat.add_zero, callVal_func, List.nil_append, List.append_nil, sem_call, r0 h8 (w h8 s8.tail)]
        refine ref24_Of_spec (by omega) s8 (hev.weaken fun h s => s.tail) (by rw [most_eq]; omega) fun v2 row2 h9 a2 s9 => ?_
        have flen : (r.events.l.filter fun e => decide (e.part = part)).length ≤ 300 := Nat.le_trans (List.length_filter_le _ _) l0
        refine ref24_Same_spec (by omega) s9 (a1.slB.of 1 rfl) (a2.slB.of 0 rfl) (by omega) ?_
        simp -failIfUnchanged only [bindP_some_eq, bindP_none_eq, guardP_true_eq, asB_eq, bcase_true, bcase_false, allocK_some, runD_nil, guardT_bool, extV_tup, map_some_eq, Option.map_some, Option.map_none, fV_agg, fVA_agg, lenS_sl, lenS_slR, lenS_slN, lenStr_str, cvI_int, pickV_bool, nilCk_ptr, nilCk_ptrR, nilCk_func, nilCk_yield, nilCk_iface, nilCk_slR, nilCk_sl, nilCk_int, unV_not, unV_neg, binK_add, binK_sub, binK_mul, binK_eql, binK_neq, binK_lss, binK_leq, binK_gtr, binK_geq, chk_same, cond_true, cond_false, List.getElem?_cons_zero, List.getElem?_cons_succ, List.length_cons, List.length_nil, Nat.zero_add, Nat.add_zero, callVal_func, List.nil_append, List.append_nil, sem_call, decide_true]
        have s9' := s9.tail.tail
        simp -failIfUnchanged only [bindP_some_eq, bindP_none_eq, guardP_true_eq, asB_eq, bcase_true, bcase_false, allocK_some, runD_nil, guardT_bool, extV_tup, map_some_eq, Option.map_some, Option.map_none, fV_agg, fVA_agg, lenS_sl, lenS_slR, lenS_slN, lenStr_str, cvI_int, pickV_bool, nilCk_ptr, nilCk_ptrR, nilCk_func, nilCk_yield, nilCk_iface, nilCk_slR, nilCk_sl, nilCk_int, unV_not, unV_neg, binK_add, binK_sub, binK_mul, binK_eql, binK_neq, binK_lss, binK_leq, binK_gtr, binK_geq, chk_same, cond_true, cond_false, List.getElem?_cons_zero, List.getElem?_cons_succ, List.length_cons, List.length_nil, Nat.zero_add, Nat.add_zero, callVal_func, List.nil_append, List.append_nil, sem_call, cw h9 (w h9 s9'), fr, r1 h9 (w h9 s9')]
        have hdat : ∀ m ∈ r.messages.l.map Message.m, m.data.length ≤ 100000 := fun m hm => by
          obtain ⟨y, hy, rfl⟩ := List.mem_map.1 hm
          have := g3 y hy
          show y.data.l.length ≤ 100000
          omega
        refine plain_From_spec (by omega) s9' hm (by rw [List.length_map]; omega) hdat fun v3 row3 ext3 h10 a3 s10 => ?_
        simp -failIfUnchanged only [bindP_some_eq, bindP_none_eq, guardP_true_eq, asB_eq, bcase_true, bcase_false, allocK_some, runD_nil, guardT_bool, extV_tup, map_some_eq, Option.map_some, Option.map_none, fV_agg, fVA_agg, lenS_sl, lenS_slR, lenS_slN, lenStr_str, cvI_int, pickV_bool, nilCk_ptr, nilCk_ptrR, nilCk_func, nilCk_yield, nilCk_iface, nilCk_slR, nilCk_sl, nilCk_int, unV_not, unV_neg, binK_add, binK_sub, binK_mul, binK_eql, binK_neq, binK_lss, binK_leq, binK_gtr, binK_geq, chk_same, cond_true, cond_false, List.getElem?_cons_zero, List.getElem?_cons_succ, List.length_cons, List.length_nil, Nat.zero_add, Nat.add_zero, callVal_func, List.nil_append, List.append_nil, sem_call, cw h10 (w h10 s10.tail.tail), r1 h10 (w h10 s10.tail.tail)]
        refine ref25_From_spec (by omega) s10 (hm.weaken fun h s => s.tail.tail) (by rw [List.length_map]; omega) fun v4 row4 h11 a4 s11 => ?_
        obtain ⟨_, d3⟩ := a3.d (ls := row4 :: row3 :: ext3 :: ls) 1 2 rfl rfl
        obtain ⟨_, d4⟩ := a4.d (ls' := row4 :: row3 :: ext3 :: ls) 0 rfl (fun h s => s.tail)
        have flen2 : ((r.messages.l.map Message.m).filter fun m => decide (m.chan ∈ outs c part)).length ≤ 300 := Nat.le_trans (List.length_filter_le _ _) (by rw [List.length_map]; exact l1)
        refine ref19_Same_spec (by omega) s11 d3 d4 (by omega) ?_
        simp -failIfUnchanged only [bindP_some_eq, bindP_none_eq, guardP_true_eq, asB_eq, bcase_true, bcase_false, allocK_some, runD_nil, guardT_bool, extV_tup, map_some_eq, Option.map_some, Option.map_none, fV_agg, fVA_agg, lenS_sl, lenS_slR, lenS_slN, lenStr_str, cvI_int, pickV_bool, nilCk_ptr, nilCk_ptrR, nilCk_func, nilCk_yield, nilCk_iface, nilCk_slR, nilCk_sl, nilCk_int, unV_not, unV_neg, binK_add, binK_sub, binK_mul, binK_eql, binK_neq, binK_lss, binK_leq, binK_gtr, binK_geq, chk_same, cond_true, cond_false, List.getElem?_cons_zero, List.getElem?_cons_succ, List.length_cons, List.length_nil, Nat.zero_add, Nat.add_zero, callVal_func, List.nil_append, List.append_nil, sem_call, decide_true]
        have s11' := s11.tail.tail.tail
        simp -failIfUnchanged only [bindP_some_eq, bindP_none_eq, guardP_true_eq, asB_eq, bcase_true, bcase_false, allocK_some, runD_nil, guardT_bool, extV_tup, map_some_eq, Option.map_some, Option.map_none, fV_agg, fVA_agg, lenS_sl, lenS_slR, lenS_slN, lenStr_str, cvI_int, pickV_bool, nilCk_ptr, nilCk_ptrR, nilCk_func, nilCk_yield, nilCk_iface, nilCk_slR, nilCk_sl, nilCk_int, unV_not, unV_neg, binK_add, binK_sub, binK_mul, binK_eql, binK_neq, binK_lss, binK_leq, binK_gtr, binK_geq, chk_same, cond_true, cond_false, List.getElem?_cons_zero, List.getElem?_cons_succ, List.length_cons, List.length_nil, Nat.zero_add, Nat.add_zero, callVal_func, List.nil_append, List.append_nil, sem_call, hag h11 s11']
        refine plain_Progs_spec (by omega) s11' hprogs fun h12 s12 => ?_
        have hlast : ∀ x : Int, x = (if part = 1 then 2 else 0) → guardT (V.bool (decide (x = 2)) |> fun t => V.bool (decide ((decide (x = 2)) = decide (part = 1)))) True False (fun _ => False) := by
          intro x hx
          subst hx
          by_cases hp : part = 1 <;> simp [hp, guardT]
        have hbb : ∀ p q : Bool, binK prog .eql T_bool false false (.bool p) (.bool q) = some (.bool (p == q)) := fun p q => by cases p <;> cases q <;> kernel_rfl
        have hlen : lenS (if 0 ≤ part then ([V.slN, V.sl b3 0 2 none 1][part.toNat]?).getD .slN else .slN) = some (I (if part = 1 then 2 else 0)) := by
          by_cases h0 : 0 ≤ part
          · obtain ⟨q, rfl⟩ := Int.eq_ofNat_of_zero_le h0
            rw [if_pos h0, Int.toNat_natCast]
            match q with
            | 0 => rfl
            | 1 => rfl
            | q + 2 => rw [if_neg (by omega)]; rfl
          · rw [if_neg h0, if_neg (by omega)]; rfl
        simp -failIfUnchanged only [bindP_some_eq, bindP_none_eq, guardP_true_eq, asB_eq, bcase_true, bcase_false, allocK_some, runD_nil, guardT_bool, extV_tup, map_some_eq, Option.map_some, Option.map_none, fV_agg, fVA_agg, lenS_sl, lenS_slR, lenS_slN, lenStr_str, cvI_int, pickV_bool, nilCk_ptr, nilCk_ptrR, nilCk_func, nilCk_yield, nilCk_iface, nilCk_slR, nilCk_sl, nilCk_int, unV_not, unV_neg, binK_add, binK_sub, binK_mul, binK_eql, binK_neq, binK_lss, binK_leq, binK_gtr, binK_geq, chk_same, cond_true, cond_false, List.getElem?_cons_zero, List.getElem?_cons_succ, List.length_cons, List.length_nil, Nat.zero_add, Nat.add_zero, callVal_func, List.nil_append, List.append_nil, sem_call, hlen, hbb]
        have hfin : (decide ((if part = 1 then (2 : Int) else 0) = 2) == decide (part = 1)) = true := by
          by_cases hp : part = 1 <;> simp [hp]
        rw [hfin]
        simp -failIfUnchanged only [bindP_some_eq, bindP_none_eq, guardP_true_eq, asB_eq, bcase_true, bcase_false, allocK_some, runD_nil, guardT_bool, extV_tup, map_some_eq, Option.map_some, Option.map_none, fV_agg, fVA_agg, lenS_sl, lenS_slR, lenS_slN, lenStr_str, cvI_int, pickV_bool, nilCk_ptr, nilCk_ptrR, nilCk_func, nilCk_yield, nilCk_iface, nilCk_slR, nilCk_sl, nilCk_int, unV_not, unV_neg, binK_add, binK_sub, binK_mul, binK_eql, binK_neq, binK_lss, binK_leq, binK_gtr, binK_geq, chk_same, cond_true, cond_false, List.getElem?_cons_zero, List.getElem?_cons_succ, List.length_cons, List.length_nil, Nat.zero_add, Nat.add_zero, callVal_func, List.nil_append, List.append_nil, sem_call]
        refine works_spec (by omega) ?_
        simp -failIfUnchanged only [bindP_some_eq, bindP_none_eq, guardP_true_eq, asB_eq, bcase_true, bcase_false, allocK_some, runD_nil, guardT_bool, extV_tup, map_some_eq, Option.map_some, Option.map_none, fV_agg, fVA_agg, lenS_sl, lenS_slR, lenS_slN, lenStr_str, cvI_int, pickV_bool, nilCk_ptr, nilCk_ptrR, nilCk_func, nilCk_yield, nilCk_iface, nilCk_slR, nilCk_sl, nilCk_int, unV_not, unV_neg, binK_add, binK_sub, binK_mul, binK_eql, binK_neq, binK_lss, binK_leq, binK_gtr, binK_geq, chk_same, cond_true, cond_false, List.getElem?_cons_zero, List.getElem?_cons_succ, List.length_cons, List.length_nil, Nat.zero_add, Nat.add_zero, callVal_func, List.nil_append, List.append_nil, sem_call]
        trivial
  refine bcase_of (fun e => hJ true (fun x => by cases x)) fun e => ?_
  simp -failIfUnchanged only [bindP_some_eq, bindP_none_eq, guardP_true_eq, asB_eq, bcase_true, bcase_false, allocK_some, runD_nil, guardT_bool, extV_tup, map_some_eq, Option.map_some, Option.map_none, fV_agg, fVA_agg, lenS_sl, lenS_slR, lenS_slN, lenStr_str, cvI_int, pickV_bool, nilCk_ptr, nilCk_ptrR, nilCk_func, nilCk_yield, nilCk_iface, nilCk_slR, nilCk_sl, nilCk_int, unV_not, unV_neg, binK_add, binK_sub, binK_mul, binK_eql, binK_neq, binK_lss, binK_leq, binK_gtr, binK_geq, chk_same, cond_true, cond_false, List.getElem?_cons_zero, List.getElem?_cons_succ, List.length_cons, List.length_nil, Nat.zero_add, Nat.add_zero, callVal_func, List.nil_append, List.append_nil, sem_call, fr, r0 h3 s3, r1 h3 s3, lenSl 6 encEvent_len, lenMsgs]
  refine bcase_dec (fun e => hJ true (fun x => by cases x)) fun e0 => ?_
  refine hJ _ fun e => ?_
  have := of_decide_eq_false e
  exact ⟨by omega, by omega⟩
end Am
