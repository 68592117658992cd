import Derived.Test.YtlabkganboebeaaGreatAmB
import Derived.Conc.LoneSelect
import Derived.LoopNIn
import Derived.Below
import Derived.Laws.Externs
import Derived.KernelRfl
import Derived.Test.YtlabkganboebeaaGreatAmA
set_option linter.all false
/-
A select of one case with a default.
-/
namespace Am
open Go Go.Conc

section
variable {P : Program} {w0 : World} {N0 B : Nat} {ϕ ϕ' : Phi} {h h' : H} {w w' : World} {S : Am.Sem}

theorem stepG_select {b : Frame} {a : Act} {k : List Item} {cs : List Frame} {ops : Array Oper} {i : Nat} {rest : List Nat} {o : Oper} (ho : ops[i]? = some o) (hw : Region.wanted o (yielded ops a.tmps) = true) (hnd : ∀ c, o.op ≠ .defer c) {cc : Array CommCase}
    (hx : (execOp a.eval o).run P w = .ok (.comm cc false .select) w) :
    ∃ es, stepG P true (G (b.atR a (.inRegion ops (i :: rest) :: k)) cs) w = .comm (G (b.atR a (.inRegion ops (i :: rest) :: k)) cs) cc false .select w es := by
  have hg := stepGR_op (P := P) (b := b) (k := k) (cs := cs) (w := w) (rest := rest) ho hw
  rw [Oper.semAt_eq _ _ _ hnd] at hg
  exact ⟨_, by rw [G, hg]; simp [stepG.apply, hx]; rfl⟩

theorem VR.chan_inv {b : Nat} {v' : Value} (h : VR w0 N0 ϕ (.chan (some b)) v') : ∃ L, ϕ b = some L ∧ v' = .chan (some L.blk) := by
  cases h with
  | chan b L hL => exact ⟨L, hL, rfl⟩
theorem VR.mk_tup1 {v : V} {v' : Value} (h : VR w0 N0 ϕ v v') : VR w0 N0 ϕ (.tup [v]) (.tuple #[v']) := VR.mk_tup (cs' := [v']) (VRL.cons h VRL.nil)

/-- The channel's block, turned. -/
theorem Rel.chan (r : Rel w0 N0 ϕ h w) {b cap : Nat} {buf buf2 : List V} {buf2' : Array Value} {L : Loc} {s rr : Nat} (hg : h.get b = some (.chan cap buf)) (hL : ϕ b = some L) (hv : VRL w0 N0 ϕ buf2 buf2'.toList) :
    Rel w0 N0 ϕ (h.set b (.chan cap buf2)) (w.setChan L.blk cap buf2' false s rr false) ∧ Fr ϕ h w ϕ (h.set b (.chan cap buf2)) (w.setChan L.blk cap buf2' false s rr false) := by
  have hlt : L.blk < w.heap.size := (r.lo b L hL).2
  refine r.set hg (fun x hx => by subst hx; simp) hL (size_setChan ..) (fun i hi => ?_) ⟨buf2', s, rr, heap_setChan _ _ _ _ _ _ _ _ hlt, hv⟩
  simp only [World.setChan]
  rw [Array.getElem?_setIfInBounds_ne (Ne.symm hi)]

theorem select_step (r : Rel w0 N0 ϕ h w) {b : Frame} {a : Act} {k : List Item} {cs : List Frame} {ops : Array Oper} {i : Nat} {rest : List Nat} {o : Oper} (ho : ops[i]? = some o) (hw : Region.wanted o (yielded ops a.tmps) = true) {sc : Array SelectCase} {bl : Bool} (hop : o.op = .select sc bl)
    {ρ : Operand → V} (hρ : ∀ x, VR w0 N0 ϕ (ρ x) (a.eval x)) {Q : V → H → Prop} (hW : selectW P sc bl ρ h Q) :
    ∃ v' w', step P (lone (b.atR a (.inRegion ops (i :: rest) :: k)) cs w) = .next (lone (b.atR (a.put o.dst v') (.inRegion ops rest :: k)) cs w') ∧
      ∃ v h', Q v h' ∧ VR w0 N0 ϕ v v' ∧ Rel w0 N0 ϕ h' w' ∧ Fr ϕ h w ϕ h' w' := by
  have hnd : ∀ c, o.op ≠ .defer c := fun c e => by rw [hop] at e; cases e
  have hfin : ∀ v, (b.atR a (.inRegion ops (i :: rest) :: k)).finish v = b.atR (a.put o.dst v) (.inRegion ops rest :: k) := by
    intro v; rw [Frame.finish_atR, ho]; rfl
  unfold selectW at hW
  split at hW
  · rename_i c hcs
    have hsc : sc = #[c] := by apply Array.ext'; simpa using hcs
    subst hsc
    split at hW
    · rename_i bk hch
      have hch' := hρ c.chan
      rw [hch] at hch'
      obtain ⟨L, hL, ech⟩ := hch'.chan_inv
      split at hW
      · rename_i cap buf hg
        obtain ⟨buf', s, rr, hblk, hvb⟩ := r.obj bk _ L hg hL
        obtain ⟨z, hz, hW⟩ := bindP_some hW
        obtain ⟨z', rz, vz⟩ := zero_sim hz w
        have hx : (execOp a.eval o).run P w = .ok (.comm #[{ chan := .chan (some L.blk), send := c.send.map a.eval, zero := z' }] false .select) w := by
          simp [execOp, hop, rz, ech]
        obtain ⟨es, hstep⟩ := stepG_select (P := P) (b := b) (a := a) (k := k) (cs := cs) (rest := rest) ho hw hnd hx
        split at hW
        · rename_i x hsend
          rw [hsend] at hstep
          obtain ⟨hgd, hW⟩ := guardP_true hW
          have hlen : buf.length = buf'.size := by simpa using hvb.1
          cases hb : Nat.blt buf.length cap with
          | true =>
            rw [hb] at hW
            have hroom : buf'.size < cap := by have := Nat.le_of_ble_eq_true hb; omega
            have hs := step_lone_select_send_room (P := P) (v := a.eval x) (z' := z') hstep hblk hroom
            rw [hfin] at hs
            obtain ⟨p1, p2⟩ := r.chan (s := s + 1) (rr := rr) (buf2 := buf ++ [ρ x]) (buf2' := buf'.push (a.eval x)) hg hL (by simpa using hvb.append (VRL.cons (hρ x) VRL.nil))
            exact ⟨_, _, hs, _, _, hW, VR.mk_tup (cs' := [.int .i64 0, .bool false]) (VRL.cons (.int _ _) (VRL.cons (.bool _) VRL.nil)), p1, p2⟩
          | false =>
            rw [hb] at hW
            have hfull : cap ≤ buf'.size := by
              rcases Nat.lt_or_ge buf.length cap with h1 | h1
              · have : Nat.blt buf.length cap = true := nble_t (a := buf.length.succ) h1
                rw [this] at hb; cases hb
              · omega
            have hs := step_lone_select_send_full (P := P) (v := a.eval x) (z' := z') hstep hblk hfull
            rw [hfin] at hs
            exact ⟨_, _, hs, _, _, hW, VR.mk_tup (cs' := [.int .i64 (-1), .bool false]) (VRL.cons (.int _ _) (VRL.cons (.bool _) VRL.nil)), r, Fr.refl _ _ _⟩
        · rename_i hsend
          rw [hsend] at hstep
          cases buf with
          | cons v rest' =>
            have hlen : (v :: rest').length = buf'.size := by simpa using hvb.1
            have hsome : 0 < buf'.size := by rw [← hlen]; simp
            have hs := step_lone_select_recv_buf (P := P) (z := z') hstep hblk hsome
            rw [hfin] at hs
            obtain ⟨p1, p2⟩ := r.chan (s := s) (rr := rr + 1) (buf2 := rest') (buf2' := buf'.extract 1 buf'.size) hg hL (by
              have := hvb.drop 1
              simp only [List.drop_succ_cons, List.drop_zero] at this
              have e : (buf'.extract 1 buf'.size).toList = buf'.toList.drop 1 := by
                rw [Array.toList_extract]
                simp
                rw [List.take_of_length_le (by simp)]
              rw [e]; exact this)
            refine ⟨_, _, hs, _, _, hW, VR.mk_tup (cs' := [.int .i64 0, .bool true, buf'.getD 0 Go.undef]) (VRL.cons (.int _ _) (VRL.cons (.bool _) (VRL.cons ?_ VRL.nil))), p1, p2⟩
            obtain ⟨v', h1, h2⟩ := hvb.get (i := 0) (v := v) rfl
            have e : buf'.getD 0 Go.undef = v' := by
              rw [Array.getD_eq_getD_getElem?]
              have : buf'[0]? = some v' := by simpa using h1
              rw [this]; rfl
            rw [e]; exact h2
          | nil =>
            have hempty : buf' = #[] := by
              have : buf'.size = 0 := by have := hvb.1; simp at this; exact this.symm
              exact Array.eq_empty_of_size_eq_zero this
            subst hempty
            have hs := step_lone_select_default (P := P) (z := z') hstep hblk
            rw [hfin] at hs
            exact ⟨_, _, hs, _, _, hW, VR.mk_tup (cs' := [.int .i64 (-1), .bool false, z']) (VRL.cons (.int _ _) (VRL.cons (.bool _) (VRL.cons vz VRL.nil))), r, Fr.refl _ _ _⟩
      · exact hW.elim
    · exact hW.elim
  · exact hW.elim

end
end Am

/-
Code: the walk.
-/
namespace Am
open Go

section
variable {P : Program} {w0 : World} {N0 B : Nat} {ϕ ϕ' : Phi} {h h' : H} {w w' : World} {S : Am.Sem}

theorem exitTo_scope (id : Nat) (c : Code) (k : List Item) : exitTo id (.inScope c :: k) = exitTo id k := by simp [exitTo]

theorem wpIn_scope' {F : Fence} {n : Nat} {c : Code} {Q : Exit → Act → World → Prop} {a : Act} {w : World} (h : c.wpIn F n P Q a w) (hng : ∀ l a w, ¬ Q (.goto l) a w) : (Code.scope c).wpIn F n P Q a w := by
  intro b k cs hro hb hr
  obtain ⟨e, a₁, w₁, hq, harr⟩ := h b (.inScope c :: k) cs hro hb hr
  have h0 : StepsIn (Machine.fenced P F) P (lone (b.atR a (.code (.scope c) :: k)) cs w) (lone (b.atR a (.code c :: .inScope c :: k)) cs w) :=
    .one (fenced_calm hb hr rfl) (step_lone_go (by simp [stepG, stepG.exec, Frame.atR]))
  have hend : ∀ a w, step P (lone (b.atR a (.inScope c :: k)) cs w) = .next (lone (b.atR a k) cs w) := fun a w => step_lone_go (by simp [stepG, stepG.exec, Frame.atR])
  refine ⟨e, a₁, w₁, hq, .of_steps h0 ?_⟩
  cases e with
  | normal => exact StepsIn.trans harr (.one (fenced_calm hb hr rfl) (hend _ _))
  | exit id => exact ⟨fun k' hk => harr.1 k' (by rw [exitTo_scope]; exact hk), fun hr hk => harr.2 hr (by rw [exitTo_scope]; exact hk)⟩
  | goto l => exact absurd hq (hng l _ _)
  | ret => exact harr
  | panic chain => exact harr
  | outgrown => exact harr

theorem dstsBelow_in {m : Nat} {ops : Array Oper} (h : dstsBelow m ops = true) : dstsIn m ops := fun i o d ho hd => by
  unfold dstsBelow at h
  have := List.all_eq_true.1 h o (by rw [List.mem_iff_getElem?]; exact ⟨i, by simpa using ho⟩)
  rw [hd] at this
  exact Nat.le_of_ble_eq_true this

theorem restrict_get (ks : List Nat) (r : Regs) (t : Nat) : rget (restrict ks r) t = rget r t ∨ rget (restrict ks r) t = .undef := by
  unfold restrict
  induction ks with
  | nil => exact .inr rfl
  | cons k ks ih =>
    rw [List.map_cons, rget_cons]
    by_cases e : k = t
    · subst e; rw [if_pos rfl]; exact .inl rfl
    · rw [if_neg e]; exact ih
theorem RegsR.restrict {r : Regs} {tmps : Array Value} (hr : RegsR w0 N0 ϕ r tmps) (ks : List Nat) : RegsR w0 N0 ϕ (restrict ks r) tmps := fun t => by
  rcases restrict_get ks r t with e | e
  · rw [e]; exact hr t
  · rw [e]; exact .undef _

theorem isSelect_false {o : Oper} (h : isSelect o = false) (cs : Array SelectCase) (b : Bool) : o.op ≠ .select cs b := fun e => by
  unfold isSelect at h
  rw [e] at h
  cases h

theorem wpC_region {m : Nat} (hS : SemOk P w0 N0 S) (hm : P.follows .mixedOrders = true) {rd : Bool} {ro : Option Nat} (hrd : rd = ro.isSome) {id : Nat} {ops : Array Oper} {draw : Bool} (hd : dstsBelow m ops = true) (hok : regionOk ops draw = true) {lo : Nat} {r : Regs} {D : Df} {a : Act} {Q : CPost}
    (st : MSt w0 N0 B m ϕ r D h a w) (hW : wpC P S rd (.region id ops draw) lo Q r D h) : (Code.region id ops draw).wpIn (FR ro) 0 P (PostR w0 N0 B m ϕ h w Q) a w := by
  have hdi := dstsBelow_in hd
  have post : ∀ a' w' r' D' h' ϕ', Q .normal r' D' h' → MSt w0 N0 B m ϕ' r' D' h' a' w' → Fr ϕ h w ϕ' h' w' → PostR w0 N0 B m ϕ h w Q .normal a' w' := fun a' w' r' D' h' ϕ' q s f => ⟨.normal, r', D', h', ϕ', rfl, q, s, f⟩
  cases draw with
  | true =>
    unfold regionOk at hok
    simp only [cond_true, Bool.and_eq_true] at hok
    obtain ⟨hs, hdr⟩ := hok
    have hsel : noSel ops := fun i o ho => isSelect_false (by
      have := List.all_eq_true.1 hs o (by rw [List.mem_iff_getElem?]; exact ⟨i, by simpa using ho⟩)
      simpa using this)
    obtain ⟨b, hdk, hgo, hcov, hba⟩ := drawnOk_ok hdr
    unfold wpC at hW
    simp only [cond_true] at hW
    refine wpIn_region_any hm ?_
    have f0 : Fr ϕ h w ϕ h { w with drawn := w.drawn + 1 } := Fr.congr rfl
    have hno : ∀ i, ¬ Ld (Array.replicate ops.size false) i := fun i hl => by
      unfold Ld at hl
      rw [Array.getD_eq_getD_getElem?, Array.getElem?_replicate] at hl
      split at hl <;> cases hl
    have hdn : ∀ j, Dn ops (canon ops) j ↔ False := fun j => ⟨fun x => x.2 (hcov j x.1), False.elim⟩
    have inv : Inv P w0 N0 B m ops b r ϕ h w (Array.replicate ops.size false) (canon ops) [] (fun _ => .undef) (fun _ => none) ϕ r D h a { w with drawn := w.drawn + 1 } := by
      refine ⟨by simp, hgo.congr (fun j => (hdn j).symm), fun i hl => absurd hl (hno i), fun i o j _ hl => absurd hl (hno i), fun i o j _ hx => ((hdn i).1 hx).elim, fun t => ?_, fun t => ?_, st.size, fun k o hk hn => absurd (hcov k (Array.getElem?_eq_some_iff.1 hk).1) hn, (fun k k' bk e => by cases e), (fun k bk e => by cases e), st.df.mono f0, Rel.congr (w := w) rfl st.rel, f0⟩
      · exact (cur_none fun i o _ _ hx => (hdn i).1 hx).symm
      · rw [cur_none fun i o _ _ hx => hno i hx]; exact st.regs t
    obtain ⟨σ', wat', val', blk', r', h', inv', hW', hhead⟩ := inv.ahead hdk _ hW
    exact drawn_any hS hrd hba hdk hsel hdi post ops.size (by
      unfold todo
      exact Nat.le_trans (List.countP_le_length) (by simp)) (GoOk.lt inv'.go) hhead inv' hW'
  | false =>
    unfold regionOk at hok
    simp only [cond_false] at hok
    unfold wpC at hW
    simp only [cond_false] at hW
    have htail : ∀ i o, 0 < i → ops[i]? = some o → ∀ cs b, o.op ≠ .select cs b := fun i o hi ho => isSelect_false (by
      have : o ∈ ops.toList.tail := by
        rw [List.mem_iff_getElem?]
        refine ⟨i - 1, ?_⟩
        rw [List.getElem?_tail]
        have e : i - 1 + 1 = i := by omega
        rw [e]
        simpa using ho
      have := List.all_eq_true.1 hok o this
      simpa using this)
    by_cases hsel0 : ∃ o cs b, ops[0]? = some o ∧ o.op = .select cs b
    · -- a select at its head
      obtain ⟨o, sc, bl, ho, hop⟩ := hsel0
      have hsz : 0 < ops.size := (Array.getElem?_eq_some_iff.1 ho).1
      obtain ⟨n, hn⟩ : ∃ n, ops.size = n + 1 := ⟨ops.size - 1, by omega⟩
      have hrange : List.range ops.size = 0 :: (List.range n).map Nat.succ := by rw [hn, List.range_succ_eq_map]
      rw [hrange] at hW
      intro b k cs hro hb hr
      have s1 : StepsIn (Machine.fenced P (FR ro)) P (lone (b.atR a (.code (.region id ops false) :: k)) cs w) (lone (b.atR a (.inRegion ops (List.range ops.size) :: k)) cs w) := .one (fenced_calm hb hr rfl) stepR_region
      rw [hrange] at s1
      unfold opsW at hW
      rw [ho] at hW
      dsimp only at hW
      have nsel : ∀ i ∈ (List.range n).map Nat.succ, ∀ o, ops[i]? = some o → ∀ cs b, o.op ≠ .select cs b := fun i hi o ho => by
        obtain ⟨j, _, rfl⟩ := List.mem_map.1 hi
        exact htail _ o (Nat.succ_pos j) ho
      have habout : ∀ f, o.about P w a.eval = some f → (FR ro).fn f := fun _ _ => trivial
      rcases guardW_cases hW with ⟨hg, r', hs, hA⟩ | ⟨hg, r', hs, hB⟩
      · have hw := guard_sim (ϕ := ϕ) (w0 := w0) (N0 := N0) (tmps := a.tmps) hg (fun j want d _ _ => st.regs d)
        have st' : MSt w0 N0 B m ϕ r' D h a w := ⟨hs.sim st.regs, st.size, st.df, st.rel⟩
        unfold opW at hA
        have hk : kindOf o.op = .eff := by rw [hop]; rfl
        rw [hk] at hA
        dsimp only at hA
        unfold effW at hA
        rw [hop] at hA
        dsimp only at hA
        obtain ⟨v', w', hstep, v, h', hq, hv, hrel, hfr⟩ := select_step (P := P) (b := b) (k := k) (cs := cs) (rest := (List.range n).map Nat.succ) st.rel ho hw hop (ev_sim st'.regs) hA
        obtain ⟨p1, p2, p3⟩ := (st'.regs.mono hfr.le).put st.size (hdi 0 o · ho) hv
        have st2 : MSt w0 N0 B m ϕ (rput r' o.dst v) D h' (a.put o.dst v') w' := ⟨p1, p2, by rw [p3]; exact st.df.mono hfr, hrel⟩
        have hwp := opsW_sim (Qx := PostR w0 N0 B m ϕ h w Q) hS hrd hdi _ nsel st2 hq fun a2 w2 r2 D2 h2 ϕ2 q2 s2 f2 => post a2 w2 r2 D2 h2 ϕ2 q2 s2 (hfr.trans f2)
        obtain ⟨e, a', w'', hq, harr⟩ := wp_opsIn _ _ _ hwp b k cs hro hb hr
        exact ⟨e, a', w'', hq, .of_steps (StepsIn.trans s1 (.one (fenced_oper hb hr ho habout) hstep)) harr⟩
      · have hw := guard_sim (ϕ := ϕ) (w0 := w0) (N0 := N0) (tmps := a.tmps) hg (fun j want d _ _ => st.regs d)
        obtain ⟨p1, p2, p3⟩ := (hs.sim st.regs).put (v' := Go.undef) st.size (hdi 0 o · ho) VR.mk_unit
        have hwp := opsW_sim (Qx := PostR w0 N0 B m ϕ h w Q) hS hrd hdi _ nsel ⟨p1, p2, by rw [p3]; exact st.df, st.rel⟩ hB post
        obtain ⟨e, a', w'', hq, harr⟩ := wp_opsIn _ _ _ hwp b k cs hro hb hr
        have hskip := stepR_op_skip (P := P) (b := b) (a := a) (k := k) (cs := cs) (w := w) (ops := ops) (i := 0) (rest := (List.range n).map Nat.succ) (by simp [ho, hw])
        simp only [ho, Option.bind_some] at hskip
        exact ⟨e, a', w'', hq, .of_steps (StepsIn.trans s1 (.one (fenced_oper hb hr ho habout) hskip)) harr⟩
    · refine wpIn_region (opsW_sim hS hrd hdi _ (fun i _ o ho => ?_) st hW post)
      by_cases hi : i = 0
      · subst hi
        exact fun cs b e => hsel0 ⟨o, cs, b, ho, e⟩
      · exact htail i o (by omega) ho

/-! ### Loops -/
theorem loop_sim {m : Nat} {rd : Bool} {ro : Option Nat} {c : Code} {lo : Nat} {ks : List Nat}
    (ih : ∀ {ϕ : Phi} {h : H} {w : World} {r : Regs} {D : Df} {a : Act} {Q : CPost}, MSt w0 N0 B m ϕ r D h a w → wpC P S rd c lo Q r D h → c.wpIn (FR ro) 0 P (PostR w0 N0 B m ϕ h w Q) a w) :
    ∀ (n : Nat) {ϕ : Phi} {h : H} {w : World} {r : Regs} {D : Df} {a : Act} {Q : CPost} {Qx : Exit → Act → World → Prop}, MSt w0 N0 B m ϕ r D h a w → loopW (fun Q r D h => wpC P S rd c lo Q r D h) ks n Q r D h →
      (∀ e a' w', PostR w0 N0 B m ϕ h w (fun o r D h => match o with | .normal => False | o => Q o r D h) e a' w' → Qx e a' w') → Code.roundsIn (FR ro) 0 P c Qx n a w
  | 0, _, _, _, _, _, _, _, _, _, hW, _ => hW.elim
  | n + 1, ϕ, h, w, r, D, a, Q, Qx, st, hW, hQ => by
    unfold loopW at hW
    rw [roundsIn_succ]
    refine wpIn_mono (ih st hW) fun e a' w' hp => ?_
    obtain ⟨o, r', D', h', ϕ', he, hq, st', f⟩ := hp
    subst he
    cases o with
    | normal =>
      have st2 : MSt w0 N0 B m ϕ' (restrict ks r') D' h' a' w' := ⟨st'.regs.restrict ks, st'.size, st'.df, st'.rel⟩
      exact loop_sim ih n st2 hq fun e a2 w2 hp => hQ e a2 w2 (hp.trans f)
    | exit id => exact hQ _ _ _ ⟨.exit id, r', D', h', ϕ', rfl, hq, st', f⟩
    | ret => exact hQ _ _ _ ⟨.ret, r', D', h', ϕ', rfl, hq, st', f⟩

/-! ### Ranges over functions -/
theorem callFunc_enter {f : FuncId} {fn : Func} {c : Code} (hf : P.funcs[f]? = some fn) (hb : fn.body = some c) (hn : (fn.name == "runtime.NumGoroutine") = false) (args : Array Value) (w : World) : (callFunc f args).run P w = .ok (.enter f args) w := by
  have hn' : ¬ fn.name = "runtime.NumGoroutine" := by simpa using hn
  simp [callFunc, hf, hb, hn']

/-- A block of the machine's alone. -/
theorem Rel.pushC (r : Rel w0 N0 ϕ h w) {oc : Go.Obj} (hh : w'.heap = w.heap.push oc) (hsm : Same w w' := by exact ⟨rfl, rfl, rfl⟩) : Rel w0 N0 ϕ h w' ∧ Fr ϕ h w ϕ h w' := by
  have hold : ∀ i, i < w.heap.size → w'.heap[i]? = w.heap[i]? := fun i hi => by
    rw [hh, Array.getElem?_push, if_neg (by omega)]
  have hsz : w'.heap.size = w.heap.size + 1 := by rw [hh]; simp
  refine ⟨⟨fun b x L hg hb => (r.obj b x L hg hb).keep (Phi.le_refl ϕ) (hold _ (r.lo b L hb).2), r.apart, fun b L hb => ?_, r.dom, fun i hi => ?_, ?_, r.wf, r.same.trans hsm⟩, ⟨Phi.le_refl ϕ, fun i hi f => ⟨hold i hi, f⟩, by omega, Nat.le_refl _, fun _ _ e => ⟨rfl, e⟩⟩⟩
  · have := r.lo b L hb; omega
  · rw [hold i (Nat.lt_of_lt_of_le hi r.size)]; exact r.old i hi
  · have := r.size; omega

end
end Am

/-
Code: the walk, all kinds.
-/
namespace Am
open Go

/-- What the program's text is asked for. -/
structure POk (P : Program) : Prop where
  mixed : P.follows .mixedOrders = true
  funcs : ∀ (f : Nat) (fn : Func), P.funcs[f]? = some fn → funcOk fn = true
  add64 : ∀ (f : Nat) (fn : Func), P.funcs[f]? = some fn → fn.body = none → fn.name = "math/bits.Add64" → ∀ (x y c : Nat), c ≤ 1 → ∀ w, (callFunc f #[.int .u64 x, .int .u64 y, .int .u64 c]).run P w =
    .ok (.value (.tuple #[.int .u64 (((x + y + c) % 18446744073709551616 : Nat) : Int), .int .u64 (((x + y + c) / 18446744073709551616 : Nat) : Int)])) w

section
variable {P : Program} {w0 : World} {N0 B : Nat} {ϕ ϕ' : Phi} {h h' : H} {w w' : World} {S : Am.Sem}

theorem POk.enter (hP : POk P) {f : FuncId} {fn : Func} {c : Code} (hf : P.funcs[f]? = some fn) (hb : fn.body = some c) (args : Array Value) (w : World) : (callFunc f args).run P w = .ok (.enter f args) w := by
  have := hP.funcs f fn hf
  unfold funcOk at this
  simp only [Bool.and_eq_true, Bool.not_eq_true'] at this
  exact callFunc_enter hf hb this.1 args w
theorem POk.code (hP : POk P) {f : FuncId} {fn : Func} {c : Code} (hf : P.funcs[f]? = some fn) (hb : fn.body = some c) : codeOk fn.ntmps c = true := by
  have := hP.funcs f fn hf
  unfold funcOk at this
  rw [hb] at this
  simp only [Bool.and_eq_true] at this
  exact this.2

theorem getLoop_run {b : Nat} {lp : Loop} (hl : w.heap[b]? = some (.loop lp)) : (Instr.getLoop b).run P w = .ok lp w := by
  simp [Instr.getLoop, getObj, Sem.run, hl]
theorem setLoop_run {b : Nat} {lp lp' : Loop} (hl : w.heap[b]? = some (.loop lp)) : (setObj b (.loop lp')).run P w = .ok () { w with heap := w.heap.setIfInBounds b (.loop lp') } := by
  simp [setObj, Sem.run, hl]

/-- The record of a range over a function, turned. -/
theorem Rel.loop (r : Rel w0 N0 ϕ h w) {b : Nat} {o : Obj} {st2 : LoopState} {p2 : Option Out} {sn : Regs} {ps : List Tmp} {assign body : Code} {L : Loc} {lp' : Loop} (hg : h.get b = some o) (hnd : ∀ x, o = x → x ≠ .dead) (hL : ϕ b = some L)
    (ho : ∀ w', w'.heap[L.blk]? = some (.loop lp') → ObjR w0 N0 ϕ w' L (.loop st2 p2 sn ps assign body)) :
    Rel w0 N0 ϕ (h.set b (.loop st2 p2 sn ps assign body)) { w with heap := w.heap.setIfInBounds L.blk (.loop lp') } ∧ Fr ϕ h w ϕ (h.set b (.loop st2 p2 sn ps assign body)) { w with heap := w.heap.setIfInBounds L.blk (.loop lp') } := by
  have hlt : L.blk < w.heap.size := (r.lo b L hL).2
  refine r.set hg hnd hL (by simp) (fun i hi => ?_) (ho _ (by simp [hlt]))
  show (w.heap.setIfInBounds L.blk (.loop lp'))[i]? = _
  rw [Array.getElem?_setIfInBounds_ne (Ne.symm hi)]

theorem range_sim {m : Nat} (hP : POk P) (hS : SemOk P w0 N0 S) {f : Operand} {ps : Array Tmp} {assign body : Code} (h1 : ∀ t ∈ ps.toList, t < m) (h2 : codeOk m assign = true) (h3 : codeOk m body = true) {lo : Nat} {r : Regs} {D : Df} {a : Act} {Q : CPost}
    (st : MSt w0 N0 B m ϕ r D h a w) (hW : wpC P S false (.rangeFunc f ps assign body) lo Q r D h) : (Code.rangeFunc f ps assign body).wpIn (FR none) 0 P (PostR w0 N0 B m ϕ h w Q) a w := by
  unfold wpC at hW
  simp only [cond_false] at hW
  obtain ⟨hbd, hW⟩ := guardP_true hW
  refine wpIn_rangeFunc fun fn _ => ?_
  -- the record
  let wd : World := { w with heap := w.heap.push (.deferred (some [])) }
  let lp : Loop := { state := .ready, pending := none, fn := fn, tmps := a.tmps, params := ps, assign := assign, body := body, defers := w.heap.size }
  let w1 : World := { w with heap := (w.heap.push (.deferred (some []))).push (.loop lp) }
  let L : Loc := ⟨w.heap.size + 1, 0, 0, 0⟩
  let mark : List Deferred := [{ target := .collected w.heap.size, args := #[] }]
  have he : (Instr.enterLoop fn a.tmps ps assign body none).run P w = .ok (w.heap.size + 1, mark) w1 := by
    simp [Instr.enterLoop, run_newObj, mark, w1, lp]
    rfl
  obtain ⟨rd1, fd1⟩ := st.rel.pushC (w' := wd) (oc := .deferred (some [])) rfl
  have hsn : ∀ t, VR w0 N0 (ϕ.put h.n L) (rget (restrict (bitsOf (Nat.lor (ue assign) (ue body))) r) t) (a.tmps.getD t Go.undef) := fun t => ((st.regs.restrict _) t).mono (Phi.le_put st.rel.fresh)
  have hlpw : w1.heap[L.blk]? = some (.loop lp) := by
    show ((w.heap.push (.deferred (some []))).push (.loop lp))[w.heap.size + 1]? = _
    rw [Array.getElem?_push, if_pos (by simp)]
  obtain ⟨r1, f1⟩ := rd1.push (w' := w1) (L := L) (oc := .loop lp) (o := .loop .ready none (restrict (bitsOf (Nat.lor (ue assign) (ue body))) r) ps.toList assign body) (by simp [L, wd]) rfl
    ⟨lp, hlpw, rfl, (fun e => by cases e), rfl, by simp [lp], rfl, rfl, hsn, by rw [show lp.tmps.size = m from st.size]; exact h2, by rw [show lp.tmps.size = m from st.size]; exact h3, by rw [show lp.tmps.size = m from st.size]; exact h1⟩
  have hϕ : (ϕ.put h.n L) h.n = some L := Phi.put_same _ _ _
  -- the call
  have hfv : VR w0 N0 (ϕ.put h.n L) (ev r f) (a.eval f) := (ev_sim st.regs f).mono f1.le
  have hargs : VRL w0 N0 (ϕ.put h.n L) [.yield h.n] (#[Value.func (.yield (w.heap.size + 1)) #[] #[]] : Array Value).toList := VRL.cons (.yield h.n L hϕ) VRL.nil
  obtain ⟨d, hd, hc⟩ := callVal_sim hS r1 hfv hargs hW
  have hres : (resolve a.eval (rangeCall f (w.heap.size + 1)) 0).run P w1 = .ok d w1 := by
    simpa [resolve, rangeCall, Act.eval] using hd
  -- it is a function with a body
  have hbody : ∃ g first caps fg cg, ev r f = .func g first caps ∧ P.funcs[g]? = some fg ∧ fg.body = some cg := by
    unfold bodied at hbd
    split at hbd
    · rename_i g first caps hg
      split at hbd
      · rename_i fg hfg
        obtain ⟨cg, hcg⟩ := Option.isSome_iff_exists.1 hbd
        exact ⟨g, first, caps, fg, cg, hg, hfg, hcg⟩
      · cases hbd
    · cases hbd
  obtain ⟨g, first, caps, fg, cg, hgv, hfg, hcg⟩ := hbody
  rw [hgv] at hfv
  obtain ⟨first', caps', hev, _, _⟩ := hfv.func_inv
  have hd' : d = { target := .fn (.func g) caps', args := first' ++ #[Value.func (.yield (w.heap.size + 1)) #[] #[]] } := by
    rw [hev] at hd
    simp [Deferred.ofValue] at hd
    exact hd.symm
  have hinvoke : (invoke d.target d.args).run P w1 = .ok (.enter g (first' ++ #[Value.func (.yield (w.heap.size + 1)) #[] #[]] ++ caps')) w1 := by
    rw [hd']
    simp only [invoke]
    exact hP.enter hfg hcg _ _
  obtain ⟨g2, as, w2, hinv2, hcall⟩ : ∃ g2 as w2, (invoke d.target d.args).run P w1 = .ok (.enter g2 as) w2 ∧ CallsIn Fence.wide 0 P g2 as w2 (CallR w0 N0 (ϕ.put h.n L) (h.push (.loop .ready none (restrict (bitsOf (Nat.lor (ue assign) (ue body))) r) ps.toList assign body)) w1 (fun _ h' =>
      match h'.get h.n with
      | some (.loop st pend sn ps assign body) =>
        match st with
        | .busy => False
        | _ =>
          match pend with
          | none => Q .normal r (none :: D) (h'.set h.n (.loop .exhausted pend sn ps assign body))
          | some .normal => False
          | some o => Q o r (none :: D) (h'.set h.n (.loop .exhausted pend sn ps assign body))
      | _ => False)) := by
    rcases hc with ⟨v', w', q1, _⟩ | ⟨f', as, w', q1, q2⟩ | ⟨l, f', tmps, as', bd, q1, _⟩
    · rw [hinvoke] at q1; cases q1
    · exact ⟨f', as, w', q1, q2⟩
    · rw [hinvoke] at q1; cases q1
  refine ⟨w.heap.size + 1, mark, w1, d, w1, g2, as, w2, he, hres, fun _ _ => trivial, hinv2, (fun h => by cases h), ?_⟩
  have hcall' : CallsIn (FR none) 0 P g2 as w2 _ := hcall
  refine CallsIn.mono hcall' fun e w3 hR => ?_
  obtain ⟨v, h3', v', ϕ3, rfl, hq, hv, hrel, hfr⟩ := hR
  -- the record, when the function has ended
  have hL3 : ϕ3 h.n = some L := hfr.le _ _ hϕ
  have hdf1 : DfR w0 N0 B (ϕ.put h.n L) (h.push (.loop .ready none (restrict (bitsOf (Nat.lor (ue assign) (ue body))) r) ps.toList assign body)) w1 (none :: D) (mark ++ a.defers) := by
    refine ⟨⟨w.heap.size, rfl, by simp [w1]; omega, ⟨st.rel.size, st.df.size⟩, fun b M l hM => ?_, by simp [w1, Array.getElem?_push]⟩, st.df.mono (fd1.trans f1), fun r e => by cases e; exact st.df.below⟩
    by_cases e : b = h.n
    · subst e
      rw [Phi.put_same] at hM
      cases hM
      simp [L]
    · rw [Phi.put_other ϕ L e] at hM
      have := (st.rel.lo b M hM).2
      omega
  have hfull : Fr ϕ h w ϕ3 h3' w3 := (fd1.trans f1).trans hfr
  split at hq
  · rename_i st3 pend sn ps' as' bd' hg3
    obtain ⟨lp3, l1, l2, l3, l4, l5, l6, l7, l8, l9, l10, l11⟩ := hrel.obj h.n _ L hg3 hL3
    have hend : ∀ (hne : st3 ≠ .busy), (Instr.endLoop L.blk).run P w3 = .ok lp3.pending { w3 with heap := w3.heap.setIfInBounds L.blk (.loop { lp3 with state := .exhausted }) } := by
      intro hne
      have hnb : (lp3.state == LoopState.busy) = false := by
        rw [l2]
        cases st3 <;> first | rfl | exact absurd rfl hne
      simp only [Instr.endLoop, Sem.run_bind, getLoop_run (P := P) l1, Result.andThen_ok, hnb, Bool.false_eq_true, if_false, Sem.run_pure, setLoop_run (P := P) l1]
    have hset := hrel.loop (st2 := .exhausted) (p2 := pend) (sn := sn) (ps := ps') (assign := as') (body := bd') (lp' := { lp3 with state := .exhausted }) hg3 (fun x hx => by subst hx; simp) hL3
      (fun w' hw' => ⟨{ lp3 with state := .exhausted }, hw', rfl, l3, l4, l5, l6, l7, l8, l9, l10, l11⟩)
    obtain ⟨rr, ff⟩ := hset
    have fin : ∀ (o : Out), Q o r (none :: D) (h3'.set h.n (.loop .exhausted pend sn ps' as' bd')) → PostR w0 N0 B m ϕ h w Q (exitOf o) { a with defers := mark ++ a.defers } { w3 with heap := w3.heap.setIfInBounds L.blk (.loop { lp3 with state := .exhausted }) } := by
      intro o hqo
      exact ⟨o, r, none :: D, _, ϕ3, rfl, hqo, ⟨st.regs.mono hfull.le, st.size, (hdf1.mono hfr).mono ff, rr⟩, hfull.trans ff⟩
    have hne : st3 ≠ .busy := by
      intro e
      subst e
      exact hq
    refine ⟨outCode pend, _, by rw [← l4]; exact hend hne, ?_⟩
    cases pend with
    | none =>
      refine fin .normal ?_
      cases st3 <;> first | exact hq | exact hq.elim
    | some o =>
      cases o with
      | normal => cases st3 <;> exact hq.elim
      | exit id =>
        refine wpIn_exit (fin (.exit id) ?_)
        cases st3 <;> first | exact hq | exact hq.elim
      | ret =>
        refine wpIn_ret (fin .ret ?_)
        cases st3 <;> first | exact hq | exact hq.elim
  · exact hq.elim

end
end Am

/-
The abstract machine is sound.
-/
namespace Am
open Go

section
variable {P : Program} {w0 : World} {N0 B : Nat} {ϕ ϕ' : Phi} {h h' : H} {w w' : World} {S : Am.Sem}

theorem PostR.noGoto {m : Nat} {Q : CPost} (l : Nat) (a : Act) (w'' : World) : ¬ PostR w0 N0 B m ϕ h w Q (.goto l) a w'' := by
  rintro ⟨o, r', D', h', ϕ', e, _⟩
  cases o <;> cases e

theorem wpC_sim {m : Nat} (hP : POk P) (hS : SemOk P w0 N0 S) {rd : Bool} {ro : Option Nat} (hrd : rd = ro.isSome) : ∀ (c : Code) (hok : codeOk m c = true) (lo : Nat) {ϕ : Phi} {h : H} {w : World} {r : Regs} {D : Df} {a : Act} {Q : CPost},
    MSt w0 N0 B m ϕ r D h a w → wpC P S rd c lo Q r D h → c.wpIn (FR ro) 0 P (PostR w0 N0 B m ϕ h w Q) a w := by
  intro c
  induction c with
  | skip => intro _ lo ϕ h w r D a Q st hW; exact wpIn_skip ⟨.normal, r, D, h, ϕ, rfl, hW, st, Fr.refl _ _ _⟩
  | label l => intro _ lo ϕ h w r D a Q st hW; exact wpIn_label ⟨.normal, r, D, h, ϕ, rfl, hW, st, Fr.refl _ _ _⟩
  | region id ops draw =>
    intro hok lo ϕ h w r D a Q st hW
    unfold codeOk at hok
    simp only [Bool.and_eq_true] at hok
    exact wpC_region hS hP.mixed hrd hok.1 hok.2 st hW
  | seq x y ihx ihy =>
    intro hok lo ϕ h w r D a Q st hW
    unfold codeOk at hok
    simp only [Bool.and_eq_true] at hok
    unfold wpC at hW
    refine wpIn_seq (wpIn_mono (ihx hok.1 _ st hW) fun e a' w' hp => ?_)
    obtain ⟨o, r', D', h', ϕ', he, hq, st', f⟩ := hp
    subst he
    cases o with
    | normal => exact wpIn_mono (ihy hok.2 _ st' hq) fun e a2 w2 hp => hp.trans f
    | exit id => exact ⟨.exit id, r', D', h', ϕ', rfl, hq, st', f⟩
    | ret => exact ⟨.ret, r', D', h', ϕ', rfl, hq, st', f⟩
  | cond c x y ihx ihy =>
    intro hok lo ϕ h w r D a Q st hW
    unfold codeOk at hok
    simp only [Bool.and_eq_true] at hok
    unfold wpC at hW
    obtain ⟨t, ht, hK⟩ := asB_some hW
    have hv := ev_sim st.regs c
    rw [ht] at hv
    have e := hv.bool_inv
    cases t with
    | true => exact wpIn_cond_true e (ihx hok.1 _ st hK)
    | false => exact wpIn_cond_false e (ihy hok.2 _ st hK)
  | block id x ih =>
    intro hok lo ϕ h w r D a Q st hW
    unfold codeOk at hok
    unfold wpC at hW
    refine wpIn_block (wpIn_mono (ih hok _ st hW) fun e a' w' hp => ?_)
    obtain ⟨o, r', D', h', ϕ', he, hq, st', f⟩ := hp
    subst he
    cases o with
    | normal => exact ⟨.normal, r', D', h', ϕ', rfl, hq, st', f⟩
    | exit k =>
      show if k = id then _ else _
      dsimp only at hq
      by_cases e : k = id
      · subst e
        rw [nb_t rfl] at hq
        rw [if_pos rfl]
        exact ⟨.normal, r', D', h', ϕ', rfl, hq, st', f⟩
      · rw [nb_f e] at hq
        rw [if_neg e]
        exact ⟨.exit k, r', D', h', ϕ', rfl, hq, st', f⟩
    | ret => exact ⟨.ret, r', D', h', ϕ', rfl, hq, st', f⟩
  | loop x ih =>
    intro hok lo ϕ h w r D a Q st hW
    unfold codeOk at hok
    unfold wpC at hW
    dsimp only at hW
    have st2 : MSt w0 N0 B m ϕ (restrict (bitsOf (Nat.lor (ue x) lo)) r) D h a w := ⟨st.regs.restrict _, st.size, st.df, st.rel⟩
    refine wpIn_loop_rounds S.n (loop_sim (fun st hW => ih hok _ st hW) S.n st2 hW fun e a' w' hp => ?_)
    obtain ⟨o, r', D', h', ϕ', he, hq, st', f⟩ := hp
    subst he
    cases o with
    | normal => exact hq.elim
    | exit k => exact ⟨.exit k, r', D', h', ϕ', rfl, hq, st', f⟩
    | ret => exact ⟨.ret, r', D', h', ϕ', rfl, hq, st', f⟩
  | scope x ih =>
    intro hok lo ϕ h w r D a Q st hW
    unfold codeOk at hok
    unfold wpC at hW
    exact wpIn_scope' (ih hok _ st hW) PostR.noGoto
  | exit id => intro _ lo ϕ h w r D a Q st hW; exact wpIn_exit ⟨.exit id, r, D, h, ϕ, rfl, hW, st, Fr.refl _ _ _⟩
  | ret => intro _ lo ϕ h w r D a Q st hW; exact wpIn_ret ⟨.ret, r, D, h, ϕ, rfl, hW, st, Fr.refl _ _ _⟩
  | rangeFunc f ps x y ihx ihy =>
    intro hok lo ϕ h w r D a Q st hW
    unfold codeOk at hok
    simp only [Bool.and_eq_true] at hok
    cases rd with
    | true => exact hW.elim
    | false =>
      have hro : ro = none := by cases ro with
        | none => rfl
        | some l => cases hrd
      subst hro
      exact range_sim hP hS (fun t ht => Nat.le_of_ble_eq_true (List.all_eq_true.1 hok.1.1 t ht)) hok.1.2 hok.2 st hW
  | goto l => intro _ lo ϕ h w r D a Q st hW; exact hW.elim
  | refuse s => intro _ lo ϕ h w r D a Q st hW; exact hW.elim

/-! ### Functions -/
theorem enum_get (vs : List V) : ∀ (i t : Nat), rget (enum i vs) t = if i ≤ t ∧ t < i + vs.length then vs.getD (t - i) .undef else .undef := by
  induction vs with
  | nil => intro i t; simp [enum, rget]; 
  | cons v vs ih =>
    intro i t
    show rget ((i, v) :: enum (i + 1) vs) t = _
    rw [rget_cons, ih]
    by_cases e : i = t
    · subst e; simp
    · rw [if_neg e]
      by_cases h1 : i + 1 ≤ t ∧ t < i + 1 + vs.length
      · rw [if_pos h1, if_pos (by simp; omega)]
        have : t - i = (t - (i + 1)) + 1 := by omega
        rw [this]
        simp
      · rw [if_neg h1, if_neg (by simp; omega)]

theorem enter_st {fn : Func} {args : List V} {args' : Array Value} (r : Rel w0 N0 ϕ h w) (ha : VRL w0 N0 ϕ args args'.toList) (hn : args.length ≤ fn.ntmps) :
    MSt w0 N0 w.heap.size fn.ntmps ϕ (enum 0 args) [] h { tmps := args' ++ Array.replicate (fn.ntmps - args'.size) Go.undef, defers := [] } w := by
  have hl : args.length = args'.size := by simpa using ha.1
  refine ⟨fun t => ?_, by simp; omega, Nat.le_refl _, r⟩
  rw [enum_get]
  by_cases ht : 0 ≤ t ∧ t < 0 + args.length
  · rw [if_pos ht]
    have hlt : t < args.length := by omega
    obtain ⟨v', h1, h2⟩ := ha.get (i := t) (v := args[t]) (List.getElem?_eq_getElem hlt)
    have e : (args' ++ Array.replicate (fn.ntmps - args'.size) Go.undef).getD t Go.undef = v' := by
      rw [Array.getD_eq_getD_getElem?, Array.getElem?_append_left (by omega)]
      have : args'[t]? = some v' := by simpa using h1
      rw [this]; rfl
    show VR w0 N0 ϕ (args.getD (t - 0) .undef) ((args' ++ Array.replicate (fn.ntmps - args'.size) Go.undef).getD t Go.undef)
    rw [e]
    simpa [List.getD_eq_getElem?_getD, hlt] using h2
  · rw [if_neg ht]; exact .undef _

def resRun (tmps : Array Value) : ResultVar → Go.Sem Value
  | .tmp t => pure (tmps.getD t Go.undef)
  | .cell c t => do loadVar t (← asAddr (tmps.getD c Go.undef))
theorem resOne_sim {r : Regs} {tmps : Array Value} (hr : RegsR w0 N0 ϕ r tmps) (rel : Rel w0 N0 ϕ h w) {x : ResultVar} {v : V} (hv : resOne P r h x = some v) :
    ∃ v', (resRun tmps x).run P w = .ok v' w ∧ VR w0 N0 ϕ v v' := by
  cases x with
  | tmp t => cases hv; exact ⟨_, rfl, hr t⟩
  | cell c t =>
    have hl : loadV P t (rget r c) h = some v := hv
    obtain ⟨v', h1, h2⟩ := load_sim (P := P) rel (hr c) hl
    refine ⟨v', ?_, h2⟩
    have hc := hr c
    cases hx : rget r c with
    | ptr b off =>
      rw [hx] at hc
      obtain ⟨L, _, e⟩ := hc.ptr_inv
      rw [e] at h1
      unfold resRun
      dsimp only
      rw [e]
      simpa [Instr.loadAt, Instr.sureAddr, asAddr] using h1
    | ptrR cs off =>
      rw [hx] at hc
      obtain ⟨a, e⟩ : ∃ a, tmps.getD c Go.undef = .pointer (some a) := by
        generalize tmps.getD c Go.undef = y at hc
        cases hc
        exact ⟨_, rfl⟩
      rw [e] at h1
      unfold resRun
      dsimp only
      rw [e]
      simpa [Instr.loadAt, Instr.sureAddr, asAddr] using h1
    | _ => all_goals (rw [hx] at hl; simp [loadV] at hl)

theorem resAll_sim {r : Regs} {tmps : Array Value} (hr : RegsR w0 N0 ϕ r tmps) (rel : Rel w0 N0 ϕ h w) : ∀ (l : List ResultVar) {vs : List V}, resAll P r h l = some vs →
    ∃ vs', (l.mapM (resRun tmps)).run P w = .ok vs' w ∧ VRL w0 N0 ϕ vs vs'
  | [], vs, hv => by cases hv; exact ⟨[], by simp, VRL.nil⟩
  | x :: xs, vs, hv => by
    unfold resAll at hv
    cases h1 : resOne P r h x with
    | none => rw [h1] at hv; cases hv
    | some v =>
      rw [h1] at hv
      dsimp only at hv
      cases h2 : resAll P r h xs with
      | none => rw [h2] at hv; cases hv
      | some ws =>
        rw [h2] at hv
        cases hv
        obtain ⟨v', a1, a2⟩ := resOne_sim (P := P) hr rel h1
        obtain ⟨ws', b1, b2⟩ := resAll_sim hr rel xs h2
        exact ⟨v' :: ws', by simp only [List.mapM_cons, Sem.run_bind, a1, Result.andThen_ok, b1, Sem.run_pure], VRL.cons a2 b2⟩

theorem results_sim {fn : Func} {r : Regs} {tmps : Array Value} (hr : RegsR w0 N0 ϕ r tmps) (rel : Rel w0 N0 ϕ h w) {v : V} (hv : resV P fn r h = some v) : ∃ v', (results fn tmps).run P w = .ok v' w ∧ VR w0 N0 ϕ v v' := by
  unfold resV at hv
  have key : ∀ {vs : List V}, resAll P r h fn.results.toList = some vs → ∃ vs' : List Value, VRL w0 N0 ϕ vs vs' ∧ (results fn tmps).run P w = .ok (if h : vs'.toArray.size = 1 then vs'.toArray[0] else .tuple vs'.toArray) w := by
    intro vs hvs
    obtain ⟨vs', a1, a2⟩ := resAll_sim (P := P) hr rel fn.results.toList hvs
    refine ⟨vs', a2, ?_⟩
    have e : (fn.results.mapM (resRun tmps)).run P w = .ok vs'.toArray w := by
      rw [Array.mapM_eq_mapM_toList, Sem.run_map, a1]
      rfl
    have e2 : results fn tmps = (do let vs ← fn.results.mapM (resRun tmps); pure (if h : vs.size = 1 then vs[0] else .tuple vs)) := by
      unfold results
      congr 1
    rw [e2, Sem.run_bind, e]
    rfl
  cases hra : resAll P r h fn.results.toList with
  | none => rw [hra] at hv; cases hv
  | some vs =>
    obtain ⟨vs', a1, a2⟩ := key hra
    rw [hra] at hv
    match vs, vs', a1, a2, hv with
    | [x], [x'], a1, a2, hv =>
      obtain rfl : x = v := by simpa using hv
      exact ⟨x', a2, a1.2 0 x x' rfl rfl⟩
    | [], [], a1, a2, hv =>
      cases hv
      exact ⟨_, a2, VR.mk_tup (cs' := []) a1⟩
    | x :: y :: l, x' :: y' :: l', a1, a2, hv =>
      cases hv
      refine ⟨_, a2, ?_⟩
      have : ¬ (x' :: y' :: l').toArray.size = 1 := by simp
      rw [dif_neg this]
      exact VR.mk_tup a1
    | [], _ :: _, a1, _, _ => have := a1.1; simp at this
    | _ :: _, [], a1, _, _ => have := a1.1; simp at this
    | [_], _ :: _ :: _, a1, _, _ => have := a1.1; simp at this
    | _ :: _ :: _, [_], a1, _, _ => have := a1.1; simp at this

/-! ### Leaving -/
theorem Rel.freeSet (r : Rel w0 N0 ϕ h w) {i : Nat} {oc : Go.Obj} (hf : free ϕ h i) (hi : N0 ≤ i) (hh : w'.heap = w.heap.setIfInBounds i oc) (hsm : Same w w' := by exact ⟨rfl, rfl, rfl⟩) : Rel w0 N0 ϕ h w' := by
  have hk : ∀ j, j ≠ i → w'.heap[j]? = w.heap[j]? := fun j hj => by rw [hh, Array.getElem?_setIfInBounds_ne (Ne.symm hj)]
  have hs : w'.heap.size = w.heap.size := by rw [hh]; simp
  refine ⟨fun b o L hg hb => ?_, r.apart, fun b L hb => by rw [hs]; exact r.lo b L hb, r.dom, fun j hj => ?_, by rw [hs]; exact r.size, r.wf, r.same.trans hsm⟩
  · cases o with
    | dead => trivial
    | _ => all_goals exact (r.obj b _ L hg hb).keep (Phi.le_refl ϕ) (hk _ (hf b L ⟨_, hg, fun x hx => by subst hx; simp⟩ hb))
  · rw [hk j (by omega)]; exact r.old j hj
theorem DfR.freeSet {i : Nat} {oc : Go.Obj} (hh : w'.heap = w.heap.setIfInBounds i oc) : ∀ {D : Df} {ds : List Deferred}, DfR w0 N0 B ϕ h w D ds → marksBelow i ds → DfR w0 N0 B ϕ h w' D ds
  | [], [], hd, _ => by
    have hd : B ≤ w.heap.size := hd
    show B ≤ w'.heap.size
    rw [hh]; simpa using hd
  | some _ :: _, d :: _, hd, hm => ⟨hd.1, DfR.freeSet hh hd.2.1 (fun e he => hm e (List.mem_cons_of_mem _ he)), hd.2.2⟩
  | none :: _, d :: _, ⟨⟨r, h1, h2, h3, h4, h5⟩, t, o⟩, hm => ⟨⟨r, h1, by rw [hh]; simpa using h2, h3, h4, by
      have := hm d (List.mem_cons_self ..) r h1
      rw [hh, Array.getElem?_setIfInBounds_ne (by omega)]; exact h5⟩, DfR.freeSet hh t (fun e he => hm e (List.mem_cons_of_mem _ he)), o⟩
  | [], _ :: _, hd, _ => hd.elim
  | _ :: _, [], hd, _ => hd.elim

theorem leaves_sim (hS : SemOk P w0 N0 S) {fn : Func} {r : Regs} {tmps : Array Value} {Q : Post} : ∀ (D : Df) (ds : List Deferred) {ϕ' : Phi} {h' : H} {w' : World}, DfR w0 N0 w.heap.size ϕ' h' w' D ds → Rel w0 N0 ϕ' h' w' → RegsR w0 N0 ϕ' r tmps →
    Fr ϕ h w ϕ' h' w' → runD S D h' (fun h => bindP (resV P fn r h) fun v => Q v h) → LeavesInM Fence.wide 0 P fn tmps (CallR w0 N0 ϕ h w Q) ds .returning w'
  | [], [], ϕ', h', w', hd, rel, hr, fr, hW => by
    obtain ⟨v, hv, hq⟩ := bindP_some hW
    obtain ⟨v', a1, a2⟩ := results_sim (P := P) hr rel hv
    exact ⟨v', a1, v, h', v', ϕ', rfl, hq, a2, rel, fr⟩
  | none :: D, d :: ds, ϕ', h', w', ⟨⟨i, h1, h2, h3, h4, h5⟩, t, o⟩, rel, hr, fr, hW => by
    refine ⟨(by simp), .inl ⟨i, { w' with heap := w'.heap.setIfInBounds i (.deferred none) }, h1, ?_, ?_⟩⟩
    · simp [Instr.takeDeferred, getObj, setObj, Sem.run, h5]
    · refine leaves_sim hS D ds (t.freeSet rfl (o i h1)) (rel.freeSet h4 h3.1 rfl) hr ⟨fr.le, fun j hj f => ?_, ?_, fr.n, fr.un⟩ hW
      · obtain ⟨e1, f1⟩ := fr.keep j hj f
        refine ⟨?_, f1⟩
        show (w'.heap.setIfInBounds i (.deferred none))[j]? = _
        have := h3.2
        rw [Array.getElem?_setIfInBounds_ne (by omega)]
        exact e1
      · show w.heap.size ≤ (w'.heap.setIfInBounds i (.deferred none)).size
        simpa using fr.grow
  | some (f, args) :: D, d :: ds, ϕ', h', w', ⟨⟨caps, h1, h2⟩, t, o⟩, rel, hr, fr, hW => by
    obtain ⟨hc, hcall⟩ := hS.dcall (args' := d.args ++ caps) hW rel h2
    refine ⟨(by simp), .inr ⟨(fun h => by cases h), .func f, caps, f, d.args ++ caps, h1, by rw [h1]; exact hc, fun _ _ => trivial, ?_⟩⟩
    obtain ⟨hF, hcall⟩ := hcall .returning
    refine ⟨hF, fun c cs hm hroom => ?_⟩
    obtain ⟨e, u', w2, frx, ⟨hu, hR⟩, s1, s2, s3, s4⟩ := hcall c cs hm hroom
    refine ⟨e, u', w2, frx, ?_, s1, s2, s3, s4⟩
    obtain ⟨v, h2', v', ϕ2, he, hq, hv, rel2, fr2⟩ := hR
    subst he
    subst hu
    exact leaves_sim hS D ds (t.mono fr2) rel2 (hr.mono fr2.le) (fr.trans fr2) hq
  | [], _ :: _, _, _, _, hd, _, _, _, _ => hd.elim
  | _ :: _, [], _, _, _, hd, _, _, _, _ => hd.elim

theorem body_sim (hP : POk P) (hS : SemOk P w0 N0 S) {f : FuncId} {fn : Func} {c : Code} (hf : P.funcs[f]? = some fn) (hb : fn.body = some c) {args : List V} {args' : Array Value} {Q : Post} (rel : Rel w0 N0 ϕ h w) (ha : VRL w0 N0 ϕ args args'.toList) (hW : bodyW P S fn c args h Q) :
    CallsIn Fence.wide 0 P f args' w (CallR w0 N0 ϕ h w Q) := by
  unfold bodyW at hW
  obtain ⟨hn, hW⟩ := guardP_true hW
  have st := enter_st (fn := fn) rel ha (Nat.le_of_ble_eq_true hn)
  have hwp := wpC_sim hP hS (rd := false) (ro := none) rfl c (hP.code hf hb) (resMask fn) st hW
  refine callsIn_of_wp_marks hf hb trivial (wpIn_mono (F := Fence.wide) hwp fun e a' w' hp => ?_)
  obtain ⟨o, r', D', h', ϕ', he, hq, st', f'⟩ := hp
  subst he
  cases o with
  | normal => exact leaves_sim hS D' a'.defers st'.df st'.rel st'.regs f' hq
  | exit id => exact hq.elim
  | ret => exact leaves_sim hS D' a'.defers st'.df st'.rel st'.regs f' hq

theorem bodyD_sim (hP : POk P) (hS : SemOk P w0 N0 S) {f : FuncId} {fn : Func} {c : Code} (hf : P.funcs[f]? = some fn) (hb : fn.body = some c) {args : List V} {args' : Array Value} {Q : Post} (rel : Rel w0 N0 ϕ h w) (ha : VRL w0 N0 ϕ args args'.toList) (hW : bodyDW P S fn c args h Q) (u : FrameMode) :
    CallsDIn Fence.wide 0 P f args' u w fun e u' w' => u' = u ∧ CallR w0 N0 ϕ h w Q e w' := by
  unfold bodyDW at hW
  obtain ⟨hn, hW⟩ := guardP_true hW
  have st := enter_st (fn := fn) rel ha (Nat.le_of_ble_eq_true hn)
  have hwp := wpC_sim hP hS (rd := false) (ro := none) rfl c (hP.code hf hb) (resMask fn) st hW
  refine callsDIn_of_wp hf hb trivial (wpIn_mono (F := Fence.wide) hwp fun e a' w' hp => ?_)
  obtain ⟨o, r', D', h', ϕ', he, hq, st', f'⟩ := hp
  subst he
  have hdf := st'.df
  have fin : ∀ {hq : D' = [] → bindP (resV P fn r' h') fun v => Q v h'}, D' = [] → a'.defers = [] ∧ ∃ v, (results fn a'.tmps).run P w' = .ok v w' ∧ CallR w0 N0 ϕ h w Q (.returned v) w' := by
    intro hq e
    have hds : a'.defers = [] := by
      rw [e] at hdf
      cases hdd : a'.defers with
      | nil => rfl
      | cons x xs => rw [hdd] at hdf; exact hdf.elim
    obtain ⟨v, hv, hq⟩ := bindP_some (hq e)
    obtain ⟨v', a1, a2⟩ := results_sim (P := P) st'.regs st'.rel hv
    exact ⟨hds, v', a1, v, h', v', ϕ', rfl, hq, a2, st'.rel, f'⟩
  cases o with
  | normal =>
    cases D' with
    | nil => exact fin (hq := fun _ => hq) rfl
    | cons x xs => exact hq.elim
  | exit id => exact hq.elim
  | ret =>
    cases D' with
    | nil => exact fin (hq := fun _ => hq) rfl
    | cons x xs => exact hq.elim

end
end Am

/-
The abstract machine is sound: rounds, functions without a body, all together.
-/
namespace Am
open Go

section
variable {P : Program} {w0 : World} {N0 B : Nat} {ϕ ϕ' : Phi} {h h' : H} {w w' : World} {S : Am.Sem}

/-- Yield's parameters. -/
theorem params_sim {m : Nat} : ∀ (ps : List Tmp) (args : List V) (args' : List Value) {r : Regs} {tmps : Array Value}, ps.length = args.length → VRL w0 N0 ϕ args args' → (∀ t ∈ ps, t < m) → tmps.size = m → RegsR w0 N0 ϕ r tmps →
    RegsR w0 N0 ϕ ((ps.zip args).reverse ++ r) ((ps.zip args').foldl (fun tmps (x : Tmp × Value) => tmps.setIfInBounds x.1 x.2) tmps) ∧ ((ps.zip args').foldl (fun tmps (x : Tmp × Value) => tmps.setIfInBounds x.1 x.2) tmps).size = m
  | [], [], args', r, tmps, _, ha, _, hs, hr => by
    have : args' = [] := List.length_eq_zero_iff.1 ha.1.symm
    subst this
    exact ⟨hr, hs⟩
  | p :: ps, v :: args, [], r, tmps, _, ha, _, _, _ => by have := ha.1; simp at this
  | p :: ps, v :: args, v' :: args', r, tmps, hl, ha, hp, hs, hr => by
    have hv : VR w0 N0 ϕ v v' := ha.2 0 v v' rfl rfl
    have hat : VRL w0 N0 ϕ args args' := ⟨by have := ha.1; simpa using this, fun i a b x y => ha.2 (i + 1) a b (by simpa using x) (by simpa using y)⟩
    have hlt := hp p (List.mem_cons_self ..)
    obtain ⟨q1, q2, _⟩ := RegsR.put (a := { tmps := tmps, defers := [] }) (dst := some p) (m := m) hr hs (fun d e => by cases e; exact hlt) hv
    have := params_sim ps args args' (r := (p, v) :: r) (tmps := tmps.setIfInBounds p v') (by simpa using hl) hat (fun t ht => hp t (List.mem_cons_of_mem _ ht)) q2 q1
    simpa using this
  | [], _ :: _, _, _, _, hl, _, _, _, _ => by simp at hl
  | _ :: _, [], _, _, _, hl, _, _, _, _ => by simp at hl

theorem round_sim (hP : POk P) (hS : SemOk P w0 N0 S) {l : Nat} {args : List V} {args' : Array Value} {Q : Post} {L : Loc} (rel : Rel w0 N0 ϕ h w) (ha : VRL w0 N0 ϕ args args'.toList) (hL : ϕ l = some L) (hW : roundW P S l args h Q) :
    ∃ fn tmps assign body, (Instr.yield L.blk args').run P w = .ok (.round L.blk fn tmps assign body) w ∧ RoundIn Fence.wide 0 P L.blk fn tmps assign body w (CallR w0 N0 ϕ h w Q) := by
  unfold roundW at hW
  split at hW
  · rename_i sn ps assign body hg
    obtain ⟨hn, hW⟩ := guardP_true hW
    have hn := Nat.eq_of_beq_eq_true hn
    obtain ⟨lp, l1, l2, l3, l4, l5, l6, l7, l8, l9, l10, l11⟩ := rel.obj l _ L hg hL
    have hsz : args'.size = lp.params.size := by have := ha.1; simp at this; rw [l5]; simp; omega
    refine ⟨lp.fn, (lp.params.zip args').foldl (fun tmps (t, a) => tmps.setIfInBounds t a) lp.tmps, lp.assign, lp.body, ?_, ?_⟩
    · simp [Instr.yield, getLoop_run (P := P) l1, hsz]
    · have hzip : (lp.params.zip args').foldl (fun tmps (t, a) => tmps.setIfInBounds t a) lp.tmps = (ps.zip args'.toList).foldl (fun tmps (x : Tmp × Value) => tmps.setIfInBounds x.1 x.2) lp.tmps := by
        rw [← Array.foldl_toList, l5]
        simp
      obtain ⟨p1, p2⟩ := params_sim (w0 := w0) (N0 := N0) (ϕ := ϕ) (m := lp.tmps.size) ps args args'.toList hn.symm ha l11 rfl l8
      rw [hzip, l6, l7]
      refine roundIn_of_wpIn trivial ?_
      have st : MSt w0 N0 w.heap.size lp.tmps.size ϕ ((ps.zip args).reverse ++ sn) [] h { tmps := (ps.zip args'.toList).foldl (fun tmps (x : Tmp × Value) => tmps.setIfInBounds x.1 x.2) lp.tmps, defers := [] } w := ⟨p1, p2, Nat.le_refl _, rel⟩
      have hwp := wpC_sim hP hS (rd := true) (ro := some L.blk) rfl assign l9 (ue body) st hW
      refine wpIn_mono (F := Fence.wide.inRound L.blk) hwp fun e a1 w1 hp => ?_
      obtain ⟨o, r1, D1, h1, ϕ1, he, hq, st1, f1⟩ := hp
      subst he
      split at hq
      · rename_i sn1 ps1 as1 bd1 hg1
        have hL1 : ϕ1 l = some L := f1.le _ _ hL
        obtain ⟨lp1, k1, k2, k3, k4, k5, k6, k7, k8, k9, k10, k11⟩ := st1.rel.obj l _ L hg1 hL1
        obtain ⟨r2, f2⟩ := st1.rel.loop (st2 := .busy) (p2 := none) (sn := sn1) (ps := ps1) (assign := as1) (body := bd1) (lp' := { lp1 with state := .busy }) hg1 (fun x hx => by subst hx; simp) hL1
          (fun w' hw' => ⟨{ lp1 with state := .busy }, hw', rfl, k3, k4, k5, k6, k7, k8, k9, k10, k11⟩)
        refine ⟨{ w1 with heap := w1.heap.setIfInBounds L.blk (.loop { lp1 with state := .busy }) }, ?_, ?_⟩
        · simp only [Instr.beginRound, Sem.run_bind, getLoop_run (P := P) k1, Result.andThen_ok, setLoop_run (P := P) k1, k2, Sem.run_pure]
        · have hds : a1.defers = [] := by
            have := st1.df
            cases hdd : a1.defers with
            | nil => rfl
            | cons x xs => rw [hdd] at this; exact this.elim
          have st2 : MSt w0 N0 w.heap.size lp.tmps.size ϕ1 r1 [] (h1.set l (.loop .busy none sn1 ps1 as1 bd1)) a1 { w1 with heap := w1.heap.setIfInBounds L.blk (.loop { lp1 with state := .busy }) } := ⟨st1.regs, st1.size, st1.df.mono f2, r2⟩
          have hwp2 := wpC_sim hP hS (rd := true) (ro := some L.blk) rfl body l10 0 st2 hq
          refine wpIn_mono (F := Fence.wide.inRound L.blk) hwp2 fun e a2 w2 hp => ?_
          obtain ⟨o, r3, D3, h3, ϕ3, he, hq3, st3, f3⟩ := hp
          subst he
          split at hq3
          · rename_i sn2 ps2 as2 bd2 hg3
            have hL3 : ϕ3 l = some L := f3.le _ _ hL1
            obtain ⟨lp3, m1, m2, m3, m4, m5, m6, m7, m8, m9, m10, m11⟩ := st3.rel.obj l _ L hg3 hL3
            have fin : ∀ (st' : LoopState) (p' : Option Out) (v : Bool) (jump : Option Code), jump = outCode p' → (p' = some .normal → False) → v = jump.isNone → st' = (if jump.isNone then .ready else .done) → Q (.bool v) (h3.set l (.loop st' p' sn2 ps2 as2 bd2)) →
                ∃ v' w', (Instr.endRound L.blk jump).run P w2 = .ok v' w' ∧ CallR w0 N0 ϕ h w Q (.returned v') w' := by
              intro st' p' v jump hj hpn hv hst hqq
              obtain ⟨r4, f4⟩ := st3.rel.loop (st2 := st') (p2 := p') (sn := sn2) (ps := ps2) (assign := as2) (body := bd2) (lp' := { lp3 with state := if jump.isNone then .ready else .done, pending := jump }) hg3 (fun x hx => by subst hx; simp) hL3
                (fun w' hw' => ⟨_, hw', hst.symm, hpn, hj, m5, m6, m7, m8, m9, m10, m11⟩)
              refine ⟨.bool jump.isNone, { w2 with heap := w2.heap.setIfInBounds L.blk (.loop { lp3 with state := if jump.isNone then .ready else .done, pending := jump }) }, ?_, .bool v, _, _, ϕ3, rfl, hqq, by rw [hv]; exact .bool _, r4, (f1.trans f2).trans (f3.trans f4)⟩
              simp only [Instr.endRound, Sem.run_bind, getLoop_run (P := P) m1, Result.andThen_ok, setLoop_run (P := P) m1, Sem.run_pure]
            cases o with
            | normal => exact fin .ready none true none rfl (fun e => by cases e) rfl rfl hq3
            | exit id => exact fin .done (some (.exit id)) false (some (.exit id)) rfl (fun e => by cases e) rfl rfl hq3
            | ret => exact fin .done (some .ret) false (some .ret) rfl (fun e => by cases e) rfl rfl hq3
          · exact hq3.elim
      · exact hq.elim
  · exact hW.elim

theorem extern_sim (hP : POk P) {f : FuncId} {fn : Func} (hf : P.funcs[f]? = some fn) (hb : fn.body = none) {args : List V} {args' : Array Value} {Q : Post} (rel : Rel w0 N0 ϕ h w) (ha : VRL w0 N0 ϕ args args'.toList) (hW : externW fn args h Q) :
    DoesCall P f args' w (CallR w0 N0 ϕ h w Q) := by
  unfold externW at hW
  cases hn : (fn.name == "math/bits.Add64") with
  | false => rw [hn] at hW; exact hW.elim
  | true =>
    rw [hn] at hW
    simp only [cond_true] at hW
    split at hW
    · rename_i x y c
      obtain ⟨hc, hq⟩ := guardP_true hW
      simp only [Bool.and_eq_true, decide_eq_true_eq] at hc
      obtain ⟨⟨hx0, hy0⟩, hc0, hc1⟩ := hc
      obtain ⟨X, rfl⟩ := Int.eq_ofNat_of_zero_le hx0
      obtain ⟨Y, rfl⟩ := Int.eq_ofNat_of_zero_le hy0
      obtain ⟨C, rfl⟩ := Int.eq_ofNat_of_zero_le hc0
      have hargs : args' = #[.int .u64 (X : Int), .int .u64 (Y : Int), .int .u64 (C : Int)] := by
        apply Array.ext'
        have hl := ha.1
        obtain ⟨a1, b1, c1⟩ := ha.get (i := 0) rfl
        obtain ⟨a2, b2, c2⟩ := ha.get (i := 1) rfl
        obtain ⟨a3, b3, c3⟩ := ha.get (i := 2) rfl
        rw [c1.int_inv] at b1
        rw [c2.int_inv] at b2
        rw [c3.int_inv] at b3
        generalize args'.toList = l at *
        match l, hl, b1, b2, b3 with
        | [p, q, r], _, b1, b2, b3 => simp at b1 b2 b3; subst b1; subst b2; subst b3; rfl
      have hn' : fn.name = "math/bits.Add64" := by simpa using hn
      refine .inl ⟨_, w, by rw [hargs]; exact hP.add64 f fn hf hb hn' X Y C (by omega) w, _, h, _, ϕ, rfl, hq, ?_, rel, Fr.refl _ _ _⟩
      exact VR.mk_tup (cs' := [.int .u64 (((X + Y + C) % 18446744073709551616 : Nat) : Int), .int .u64 (((X + Y + C) / 18446744073709551616 : Nat) : Int)]) (VRL.cons (.int _ _) (VRL.cons (.int _ _) VRL.nil))
    · exact hW.elim

def isTrue : V → Prop
  | .bool true => True
  | _ => False
theorem isTrue_eq {v : V} (h : isTrue v) : v = .bool true := by
  unfold isTrue at h
  split at h
  · rfl
  · exact h.elim

/-- Nothing is there yet. -/
theorem Rel.start (w : World) : Rel w w.heap.size (fun _ => none) H.empty w :=
  { obj := fun _ _ _ _ h => by cases h
    apart := fun _ _ _ _ _ _ h => by cases h
    lo := fun _ _ h => by cases h
    dom := fun _ _ h => by cases h
    old := fun _ _ => rfl
    size := Nat.le_refl _
    wf := fun _ _ => rfl
    same := ⟨rfl, rfl, rfl⟩ }

/-- All that was there is as it was. -/
theorem Rel.grown (r : Rel w0 N0 ϕ h w) (hs : w.heap.size ≤ w'.heap.size) (ho : ∀ i, i < w.heap.size → w'.heap[i]? = w.heap[i]?) (hsm : Same w w') : Rel w0 N0 ϕ h w' :=
  { obj := fun b o L hg hL => ObjR.keep (Phi.le_refl ϕ) (ho _ (r.lo b L hL).2) (r.obj b o L hg hL)
    apart := r.apart
    lo := fun b L hL => ⟨(r.lo b L hL).1, Nat.lt_of_lt_of_le (r.lo b L hL).2 hs⟩
    dom := r.dom
    old := fun i hi => (ho i (Nat.lt_of_lt_of_le hi r.size)).trans (r.old i hi)
    size := Nat.le_trans r.size hs
    wf := r.wf
    same := r.same.trans hsm }
theorem Fr.grown (hs : w.heap.size ≤ w'.heap.size) (ho : ∀ i, i < w.heap.size → w'.heap[i]? = w.heap[i]?) : Fr ϕ h w ϕ h w' :=
  ⟨Phi.le_refl ϕ, fun i hi f => ⟨ho i hi, f⟩, hs, Nat.le_refl _, fun _ _ e => ⟨rfl, e⟩⟩

theorem DoesCall.mono {f : FuncId} {args : Array Value} {w : World} {R R' : Ending → World → Prop} (hR : ∀ e w', R e w' → R' e w') (hd : DoesCall P f args w R) : DoesCall P f args w R' := by
  rcases hd with ⟨v', w', h1, h2⟩ | ⟨w', h1, h2⟩
  · exact .inl ⟨v', w', h1, hR _ _ h2⟩
  · exact .inr ⟨w', h1, CallsIn.mono h2 hR⟩

/-- What is known of the functions of 'W'. -/
def WOk (P : Program) (W : Cfg) : Prop := ∀ f, W.W.contains f = true → ∃ d n, callW P ⟨[], n⟩ d f [] H.empty (fun v _ => isTrue v)
theorem WOk.nil (n : Nat) : WOk P ⟨[], n⟩ := fun f h => by simp at h

/-- One call more, where the calls below are known. -/
theorem sem_step {W : Cfg} {d : Nat} (hP : POk P)
    (hWc : ∀ {f : FuncId} {h : H} {Q : Post} {ϕ : Phi} {w : World}, W.W.contains f = true → Q (.bool true) h → Rel w0 N0 ϕ h w → DoesCall P f #[] w (CallR w0 N0 ϕ h w Q))
    (ih : SemOk P w0 N0 (sem P W d)) : SemOk P w0 N0 (sem P W (d + 1)) := by
    refine ⟨fun {f args h Q ϕ w args'} hW rel ha => ?_, fun {f args h Q ϕ w args'} hW rel ha => ?_, fun {l args h Q ϕ w args' L} hW rel ha hL => round_sim hP ih rel ha hL hW⟩
    · have hW' : (bif W.W.contains f && args.isEmpty then Q (.bool true) h else match P.funcs[f]? with
        | some fn =>
          match fn.body with
          | some c => bodyW P (sem P W d) fn c args h Q
          | none => externW fn args h Q
        | none => False) := hW
      cases hc : (W.W.contains f && args.isEmpty) with
      | true =>
        rw [hc] at hW'
        simp only [Bool.and_eq_true, List.isEmpty_iff] at hc
        obtain ⟨hc1, rfl⟩ := hc
        have : args' = #[] := by
          apply Array.ext'
          exact List.length_eq_zero_iff.1 ha.1.symm
        subst this
        exact hWc hc1 hW' rel
      | false =>
        rw [hc] at hW'
        dsimp only [cond_false] at hW'
        cases hf : P.funcs[f]? with
        | none => rw [hf] at hW'; exact hW'.elim
        | some fn =>
          rw [hf] at hW'
          dsimp only at hW'
          cases hb : fn.body with
          | none => rw [hb] at hW'; exact extern_sim hP hf hb rel ha hW'
          | some c => rw [hb] at hW'; exact .inr ⟨w, hP.enter hf hb _ _, body_sim hP ih hf hb rel ha hW'⟩
    · have hW' : (match P.funcs[f]? with
        | some fn =>
          match fn.body with
          | some c => bodyDW P (sem P W d) fn c args h Q
          | none => False
        | none => False) := hW
      cases hf : P.funcs[f]? with
      | none => rw [hf] at hW'; exact hW'.elim
      | some fn =>
        rw [hf] at hW'
        dsimp only at hW'
        cases hb : fn.body with
        | none => rw [hb] at hW'; exact hW'.elim
        | some c => rw [hb] at hW'; exact ⟨hP.enter hf hb _ _, fun u => bodyD_sim hP ih hf hb rel ha hW' u⟩

theorem sem_ok0 (hP : POk P) (n : Nat) (w0 : World) (N0 : Nat) : ∀ d, SemOk P w0 N0 (sem P ⟨[], n⟩ d)
  | 0 => ⟨fun hW => hW.elim, fun hW => hW.elim, fun hW => hW.elim⟩
  | d + 1 => sem_step hP (fun hc => by simp at hc) (sem_ok0 hP n w0 N0 d)

theorem sem_ok {W : Cfg} (hP : POk P) (hK : WOk P W) (w0 : World) (N0 : Nat) : ∀ d, SemOk P w0 N0 (sem P W d)
  | 0 => ⟨fun hW => hW.elim, fun hW => hW.elim, fun hW => hW.elim⟩
  | d + 1 => sem_step hP (fun {f h Q ϕ w} hc hq rel => by
      obtain ⟨d, n, hcl⟩ := hK f hc
      have := (sem_ok0 hP n w w.heap.size d).call hcl (Rel.start w) (args' := #[]) VRL.nil
      refine this.mono fun e w' hR => ?_
      obtain ⟨v, h', v', ϕ', he, hq', hv, rel', _⟩ := hR
      have e1 := isTrue_eq hq'
      subst e1
      rw [hv.bool_inv] at he
      exact ⟨.bool true, h, .bool true, ϕ, he, hq, .bool true, rel.grown rel'.size rel'.old rel'.same, Fr.grown rel'.size rel'.old⟩) (sem_ok hP hK w0 N0 d)

end
end Am

/-
From the abstract machine to the kit's 'Calls'.
-/
namespace Am
open Go Go.RowKit

theorem Rel.below {w0 w : World} {ϕ : Phi} {h : H} (r : Rel w0 w0.heap.size ϕ h w) : Below w0.heap.size w0 w :=
  ⟨r.same.1, r.same.2.1, r.same.2.2, r.size, fun k hk => r.old k hk⟩

theorem calls_of {P : Program} {W : Cfg} (hP : POk P) (hK : WOk P W) {d : Nat} {f : FuncId} {fn : Func} {c : Code} (hf : P.funcs[f]? = some fn) (hb : fn.body = some c) {args : List V} {args' : Array Value} {Q : Post} {w : World}
    (hW : callW P W d f args H.empty Q) (ha : VRL w w.heap.size (fun _ => none) args args'.toList) :
    Calls P f args' w fun e w' => ∃ (v : V) (h' : H) (v' : Value) (ϕ' : Phi), e = .returned v' ∧ Q v h' ∧ VR w w.heap.size ϕ' v v' ∧ Rel w w.heap.size ϕ' h' w' ∧ Below w.heap.size w w' := by
  rcases (sem_ok hP hK w w.heap.size d).call hW (Rel.start w) ha with ⟨v', w', h1, _⟩ | ⟨w', h1, h2⟩
  · rw [hP.enter hf hb] at h1; cases h1
  · rw [hP.enter hf hb] at h1
    cases h1
    refine callsIn_wide.1 (CallsIn.mono h2 fun e w' hR => ?_)
    obtain ⟨v, h', v', ϕ', he, hq, hv, rel, _⟩ := hR
    exact ⟨v, h', v', ϕ', he, hq, hv, rel, rel.below⟩

/-- A function that returns true and writes nothing that was there. -/
theorem calls_true {P : Program} {W : Cfg} (hP : POk P) (hK : WOk P W) {d : Nat} {f : FuncId} {fn : Func} {c : Code} (hf : P.funcs[f]? = some fn) (hb : fn.body = some c) {args : List V} {args' : Array Value} {w : World}
    (hW : callW P W d f args H.empty (fun v _ => isTrue v)) (ha : VRL w w.heap.size (fun _ => none) args args'.toList) :
    Calls P f args' w fun e w' => e = .returned (.bool true) ∧ Below w.heap.size w w' := by
  have h := calls_of hP hK hf hb hW ha
  intro cs
  obtain ⟨e, w', fr, hR, rest⟩ := h cs
  obtain ⟨v, h', v', ϕ', he, hq, hv, rel, hbel⟩ := hR
  have e1 := isTrue_eq hq
  subst e1
  rw [hv.bool_inv] at he
  exact ⟨e, w', fr, ⟨he, hbel⟩, rest⟩

end Am

/-
What is asked of a program's text, from what the kernel can check.
-/
namespace Am
open Go

theorem findNext_add64 : Extern.allNextRows.lookup "math/bits.Add64" = none := by kernel_rfl
theorem find1_add64 : Extern.allGenericRows.lookup "math/bits.Add64" = none := by kernel_rfl
theorem find2_add64 : Extern.allTypedRows.lookup "math/bits.Add64" = none := by kernel_rfl
theorem find3_add64 : Extern.allRows.lookup "math/bits.Add64" = some add64Entry := by kernel_rfl

theorem POk.of {P : Program} (hm : P.follows .mixedOrders = true) (hf : P.funcs.toList.all funcOk = true) (ho : P.funcs.toList.all (fun fn => bif fn.name == "math/bits.Add64" then (Extern.allNextRows.lookup fn.origin).isNone else true) = true) : POk P := by
  have mem : ∀ (f : Nat) (fn : Func), P.funcs[f]? = some fn → fn ∈ P.funcs.toList := fun f fn h => by
    rw [List.mem_iff_getElem?]; exact ⟨f, by simpa using h⟩
  refine ⟨hm, fun f fn h => List.all_eq_true.1 hf fn (mem f fn h), fun f fn h hb hn x y c hc w => ?_⟩
  have hor : Extern.allNextRows.lookup fn.origin = none := by
    have := List.all_eq_true.1 ho fn (mem f fn h)
    rw [hn] at this
    simpa using this
  have h1 : Extern.findNext fn = none := by simp [Extern.findNext, hn, hor, findNext_add64]
  have h2 : Extern.find fn = some add64Entry := by simp [Extern.find, hn, find1_add64, find2_add64, find3_add64]
  rw [run_callFunc_extern h (by rw [hn]; decide) (by rw [hb]; rfl) h1 h2, run_add64 x y c (by omega) (by omega) (by omega) (by omega)]
  simp only [Result.andThen]
  congr 5 <;> omega

end Am

/-
The words in which a function's residual text is printed: each is what the predicate transformer does at one operation.
-/
namespace Am
open Go

def pickV (c a b : V) : Option V :=
  match c with
  | .bool t => some (bif t then a else b)
  | _ => none
def nilCk (v : V) : Option V :=
  match v with
  | .ptrN | .nilI | .nilF | .undef => none
  | v => some v
def extV (t : V) (i : Nat) : Option V :=
  match t with
  | .tup vs => vs[i]?
  | _ => none
def opdOf : Bool → Operand
  | true => .const .nilFunc
  | false => .tmp 0
def binK (P : Program) (op : BinOp) (t : TypeId) (cx cy : Bool) (a b : V) : Option V := binV P op t (opdOf cx) (opdOf cy) a b
def fillV : List V → List (Nat × Nat × V) → Option V
  | cs, [] => some (.agg cs)
  | cs, (off, size, v) :: rest =>
    match some (off, size), partCells v with
    | some (off, size), some pc => bif Nat.beq pc.length size && Nat.ble (off + pc.length) cs.length then fillV (splice cs off pc) rest else none
    | _, _ => none
/-- A cell; 'n' cells. -/
def ld (a : V) (h : H) : Option V :=
  match a with
  | .ptr b off => ld1 h b off
  | .ptrR cs off => cs[off]?
  | _ => none
def ldA (n : Nat) (a : V) (h : H) : Option V :=
  match a with
  | .ptr b off =>
    match ldN h b off n with
    | some cs => some (.agg cs)
    | none => none
  | .ptrR cs off =>
    match cut cs off n with
    | some cs => some (.agg cs)
    | none => none
  | _ => none
def stV (n : Nat) (a v : V) (h : H) : Option H :=
  match a with
  | .ptr b off =>
    match v with
    | .agg cs => bif Nat.beq cs.length n && true then stN h b off cs else none
    | .tup _ | .undef => none
    | v => bif Nat.beq n 1 then st1 h b off v else none
  | _ => none
def fA (off : Nat) (x : V) : Option V :=
  match x with
  | .ptr b o => some (.ptr b (o + off))
  | .ptrR cs o => some (.ptrR cs (o + off))
  | _ => none
def fV (off : Nat) (x : V) : Option V :=
  match x with
  | .agg cs => cs[off]?
  | _ => none
def fVA (off n : Nat) (x : V) : Option V :=
  match x with
  | .agg cs =>
    match cut cs off n with
    | some cs => some (.agg cs)
    | none => none
  | _ => none
def iA (es : Nat) (x i : V) : Option V :=
  match i with
  | .int _ i =>
      match x with
      | .sl b off len _ _ => bif decide (0 ≤ i) && decide (i < (len : Int)) then some (.ptr b (off + i.toNat * es)) else none
      | .slR cs off len _ => bif decide (0 ≤ i) && decide (i < (len : Int)) then some (.ptrR cs (off + i.toNat * es)) else none
      | _ => none
  | _ => none
def iAr (len es : Nat) (x i : V) : Option V :=
  match i with
  | .int _ i =>
      match x with
      | .ptr b off => bif decide (0 ≤ i) && decide (i < (len : Int)) then some (.ptr b (off + i.toNat * es)) else none
      | .ptrR cs off => bif decide (0 ≤ i) && decide (i < (len : Int)) then some (.ptrR cs (off + i.toNat * es)) else none
      | _ => none
  | _ => none
def ixS (x i : V) : Option V :=
  match i with
  | .int _ i =>
    match x with
    | .str s =>
      bif decide (0 ≤ i) then
        match s[i.toNat]? with
        | some b => some (.int .u8 b.toNat)
        | none => none
      else none
    | _ => none
  | _ => none
def slS (es : Nat) (x : V) (low high max : Option V) : Option V :=
    match x with
    | .sl b off len cap es' =>
      bif !Nat.beq es es' then none else
      match bound low 0, bound high len with
      | some l, some h =>
        match max with
        | none =>
          bif Nat.ble l h && Nat.ble h len then
            some (.sl b (off + l * es) (h - l) (cap.map (· - l)) es)
          else none
        | some m =>
          match high, bound (some m) 0 with
          | some _, some m => bif Nat.ble l h && Nat.ble h m && Nat.ble m len then some (.sl b (off + l * es) (h - l) (some (m - l)) es) else none
          | _, _ => none
      | _, _ => none
    | .slR cs off len cap =>
      match bound low 0, bound high len with
      | some l, some h =>
        match max with
        | none =>
          bif Nat.ble l h && Nat.ble h len then
            some (.slR cs (off + l * es) (h - l) (cap.map (· - l)))
          else none
        | some m =>
          match high, bound (some m) 0 with
          | some _, some m => bif Nat.ble l h && Nat.ble h m && Nat.ble m len then some (.slR cs (off + l * es) (h - l) (some (m - l))) else none
          | _, _ => none
      | _, _ => none
    | .slN =>
      match bound low 0, bound high 0 with
      | some 0, some 0 =>
        match max with
        | none => some .slN
        | some m =>
          match high, bound (some m) 0 with
          | some _, some 0 => some .slN
          | _, _ => none
      | _, _ => none
    | _ => none
def slStr (x : V) (low high max : Option V) : Option V :=
    match x, max with
    | .str s, none =>
      match bound low 0, bound high s.size with
      | some l, some h => bif Nat.ble l h && Nat.ble h s.size then some (.str (s.extract l h)) else none
      | _, _ => none
    | _, _ => none
def lenS (x : V) : Option V :=
  match x with
  | .sl _ _ n _ _ | .slR _ _ n _ => some (.int .i64 n)
  | .slN => some (.int .i64 0)
  | _ => none
def lenStr (x : V) : Option V :=
  match x with
  | .str s => some (.int .i64 s.size)
  | _ => none
def cvI (k : IntKind) (x : V) : Option V :=
  match x with
  | .int _ n => some (.int k (k.wrap n))
  | _ => none
def asrt (t : TypeId) (z : V) (x : V) (ok : Bool) : Option V :=
    match x with
    | .iface t' v =>
      bif Nat.beq t' t then some (bif ok then .tup [v, .bool true] else v)
      else bif ok then some (.tup [z, .bool false])
      else none
    | .nilI => bif ok then some (.tup [z, .bool false]) else none
    | _ => none

def allocP (cs : List V) (es : Nat) (h : H) (K : V → H → Prop) : Prop := K (.ptr h.n 0) (h.push (.cells cs es false))
def boxO (x : V) : Option (Obj × (Nat → V)) :=
  match partCells x with
  | some cs => some (.cells cs cs.length false, fun b => .ptr b 0)
  | none => none
def bsl (es : Nat) (cs : List V) (len : Nat) (l : List (Nat × V)) : Option (Obj × (Nat → V)) :=
  match fillS es cs l with
  | some cs => some (.cells cs es false, fun b => .sl b 0 len none es)
  | none => none
def msl (es : Nat) (z : List V) (l c : V) : Option (Obj × (Nat → V)) :=
  match l, c with
  | .int .i64 l, .int .i64 c =>
      bif decide (0 ≤ l) && decide (l ≤ c) && decide (c ≤ most) && true && true && true then
        some (.cells (repl c.toNat z) es false, fun b => .sl b 0 l.toNat none es)
      else none
  | _, _ => none
def mkMap (h : H) (K : V → H → Prop) : Prop := K (.map (some h.n)) (h.push (.map []))
def mkChan (s : V) : Option (Obj × (Nat → V)) :=
  match s with
  | .int _ n => bif decide (0 ≤ n) && decide (n ≤ most) && true && true then some (.chan n.toNat [], fun b => .chan (some b)) else none
  | _ => none
def roomN (need : Nat) : Bool := Nat.ble need most && true && true
def grownK (es : Nat) (need : Nat) (cs : List V) (h : H) (Q : V → H → Prop) : Prop :=
  guardP (roomN need) (Q (.sl h.n 0 need none es) (h.push (.cells cs es true)))
def appK (es : Nat) (s x : V) (h : H) (Q : V → H → Prop) : Prop :=
  bindP (srcLen x) fun n =>
  bindP (srcCells x es n h) fun new =>
  match s with
  | .slN => bif Nat.beq n 0 then Q .slN h else grownK es n new h Q
  | .sl b off len cap es0 =>
    match h.get b with
    | some (.cells cs es' g) =>
      guardP (Nat.beq es' es && Nat.beq es0 es' && !Nat.beq es' 0) <|
      match cap, g with
      | none, true =>
        bif Nat.ble (off + (len + n) * es') cs.length then bindP (stN h b (off + len * es') new) fun h' => Q (.sl b off (len + n) none es') h'
        else guardP (Nat.beq (off + len * es') cs.length && roomN (len + n)) (Q (.sl h.n 0 (len + n) none es') ((h.set b .dead).push (.cells (cs.drop off ++ new) es' true)))
      | cap, _ =>
        bif Nat.ble (len + n) (cap.getD ((cs.length - off) / es')) then bindP (stN h b (off + len * es') new) fun h' => Q (.sl b off (len + n) cap es') h'
        else bindP (cut cs off (len * es')) fun old => grownK es (len + n) (old ++ new) h Q
    | _ => False
  | .slR cs off len cap =>
    bif Nat.beq n 0 then Q s h else
    bindP cap fun c => guardP (Nat.blt c (len + n)) <| bindP (cut cs off (len * es)) fun old => grownK es (len + n) (old ++ new) h Q
  | _ => False
def copyK (es : Nat) (d x : V) (h : H) (Q : V → H → Prop) : Prop :=
  bindP (srcLen x) fun n => bindP (srcLen d) fun m =>
  bindP (srcCells x es (Nat.min n m) h) fun new =>
  match d with
  | .slN => Q (.int .i64 0) h
  | .sl b off _ _ _ => bindP (stN h b off new) fun h' => Q (.int .i64 (Nat.min n m)) h'
  | _ => False
def clrK (z : List V) (x : V) (h : H) (Q : V → H → Prop) : Prop :=
    match x with
    | .slN => Q (.tup []) h
    | .sl b off n _ _ => bif Nat.beq n 0 then Q (.tup []) h else guardP (true && true) <| bindP (stN h b off (repl n z)) fun h' => Q (.tup []) h'
    | _ => False

def allocK (o : Option (Obj × (Nat → V))) (h : H) (K : V → H → Prop) : Prop := bindP o fun om => K (om.2 h.n) (h.push om.1)

def invK (P : Program) (S : Sem) (r : V) (name : String) (args : List V) (h : H) (K : V → H → Prop) : Prop :=
  match r with
  | .iface t v => bindP (methodF P t name) fun f => S.call f (v :: args) h K
  | _ => False
def selK (z : V) (ch : V) (send : Option V) (h : H) (Q : V → H → Prop) : Prop :=
    match ch with
    | .chan (some b) =>
      match h.get b with
      | some (.chan cap buf) =>
        match send with
        | some x => guardP (match x with | .undef | .tup _ => false | _ => true) <|
          bif Nat.blt buf.length cap then Q (.tup [.int .i64 0, .bool false]) (h.set b (.chan cap (buf ++ [x]))) else Q (.tup [.int .i64 (-1), .bool false]) h
        | none =>
          match buf with
          | v :: rest => Q (.tup [.int .i64 0, .bool true, v]) (h.set b (.chan cap rest))
          | [] => Q (.tup [.int .i64 (-1), .bool false, z]) h
      | _ => False
    | _ => False
/-- 'A': it is wanted; 'B': it is not; 'C': it was itself let out. -/
def guardT (v : V) (A B : Prop) (C : List V → Prop) : Prop :=
  match v with
  | .bool true => A
  | .bool false => B
  | .tup vs => C vs
  | _ => False

/-- A function's results, some of which lie in memory. -/
def allO : List (Option V) → Option (List V)
  | [] => some []
  | x :: xs =>
    match x with
    | some v =>
      match allO xs with
      | some vs => some (v :: vs)
      | none => none
    | none => none
def resO (l : List (Option V)) : Option V :=
  match allO l with
  | some [v] => some v
  | some vs => some (.tup vs)
  | none => none

/-! ### Continuations of code -/
def seqK (A : Regs → Df → H → Prop) (Q : CPost) : CPost := fun o r D h => match o with | .normal => A r D h | o => Q o r D h
def blockK (id : Nat) (Q : CPost) : CPost := fun o r D h => match o with | .exit k => bif Nat.beq k id then Q .normal r D h else Q (.exit k) r D h | o => Q o r D h
def finK (P : Program) (S : Sem) (fn : Func) (Q : Post) : CPost := fun o r D h => match o with
    | .exit _ => False
    | _ => runD S D h fun h => bindP (resV P fn r h) fun v => Q v h
def finDK (P : Program) (fn : Func) (Q : Post) : CPost := fun o r D h => match o, D with
    | .exit _, _ => False
    | _, [] => bindP (resV P fn r h) fun v => Q v h
    | _, _ => False

/-- A part of a function's code. -/
def sub : Code → List Nat → Code
  | c, [] => c
  | .seq a _, 0 :: p => sub a p
  | .seq _ b, _ :: p => sub b p
  | .cond _ a _, 0 :: p => sub a p
  | .cond _ _ b, _ :: p => sub b p
  | .block _ b, _ :: p => sub b p
  | .loop b, _ :: p => sub b p
  | .scope b, _ :: p => sub b p
  | .rangeFunc _ _ a _, 0 :: p => sub a p
  | .rangeFunc _ _ _ b, _ :: p => sub b p
  | c, _ => c
def codeAt (P : Program) (f : FuncId) (p : List Nat) : Code :=
  match P.funcs[f]? with
  | some fn =>
    match fn.body with
    | some c => sub c p
    | none => .skip
  | none => .skip
def fnAt (P : Program) (f : FuncId) : Func := (P.funcs[f]?).getD default
def strLit (l : List Nat) : ByteArray := ⟨(l.map UInt8.ofNat).toArray⟩

def rangeK (P : Program) (S : Sem) (f : V) (sn : Regs) (ps : List Tmp) (assign body : Code) (r : Regs) (D : Df) (h : H) (Q : CPost) : Prop :=
    guardP (bodied P f) <|
    callVal S f [.yield h.n] (h.push (.loop .ready none sn ps assign body)) fun _ h' =>
      match h'.get h.n with
      | some (.loop st pend sn ps assign body) =>
        match st with
        | .busy => False
        | _ =>
          match pend with
          | none => Q .normal r (none :: D) (h'.set h.n (.loop .exhausted pend sn ps assign body))
          | some .normal => False
          | some o => Q o r (none :: D) (h'.set h.n (.loop .exhausted pend sn ps assign body))
      | _ => False

/-! ### Rounds of a range over a function -/
def midR (l : Nat) (h : H) (K : H → Prop) : Prop :=
  match Out.normal, ([] : Df), h.get l with
  | .normal, [], some (.loop .ready none sn1 ps1 as1 bd1) => K (h.set l (.loop .busy none sn1 ps1 as1 bd1))
  | _, _, _ => False
def endR (o : Out) (l : Nat) (h : H) (Q : Post) : Prop :=
  match ([] : Df), h.get l with
  | [], some (.loop .busy none sn2 ps2 as2 bd2) =>
    match o with
    | .normal => Q (.bool true) (h.set l (.loop .ready none sn2 ps2 as2 bd2))
    | o => Q (.bool false) (h.set l (.loop .done (some o) sn2 ps2 as2 bd2))
  | _, _ => False
def endK (l : Nat) (Q : Post) : CPost := fun o _ D h =>
  match D, h.get l with
  | [], some (.loop .busy none sn2 ps2 as2 bd2) =>
    match o with
    | .normal => Q (.bool true) (h.set l (.loop .ready none sn2 ps2 as2 bd2))
    | o => Q (.bool false) (h.set l (.loop .done (some o) sn2 ps2 as2 bd2))
  | _, _ => False
theorem round_of {P : Program} {W : Cfg} {d l : Nat} {args : List V} {h : H} {Q : Post} {R : Prop} {sn : Regs} {ps : List Tmp} {a b : Code} (hl : h.get l = some (.loop .ready none sn ps a b))
    (e : (guardP (Nat.beq args.length ps.length) <|
    wpC P (sem P W d) true a (ue b) (fun o r D h =>
      match o, D, h.get l with
      | .normal, [], some (.loop .ready none sn1 ps1 as1 bd1) =>
        wpC P (sem P W d) true b 0 (endK l Q) r [] (h.set l (.loop .busy none sn1 ps1 as1 bd1))
      | _, _, _ => False) ((ps.zip args).reverse ++ sn) [] h) = R) : (sem P W (d + 1)).yield l args h Q = R := by
  show roundW P (sem P W d) l args h Q = R
  unfold roundW
  rw [hl]
  exact e
end Am
