/- A region that draws its order does what gD says. -/
import Derived.Test.YtnaoeggecibkmaaDoorFi
namespace Go.Proofs.YtnaoeggecibkmaaDoor.Gh
open Go Go.RowKit
set_option linter.unusedVariables false
set_option linter.unusedSimpArgs false

theorem keepAll_mem {ks : List Nat} {G : GH} : ∀ {R : List (Nat × (GH → Prop))} {i : Nat} {q : GH → Prop}, keepAll ks R G → (i, q) ∈ R → ks.contains i = true → q G
  | (i', q') :: R, i, q, h, hm, hk => by
    simp only [keepAll] at h
    rcases List.mem_cons.1 hm with e | hm
    · cases e; have := h.1; rwa [if_pos hk] at this
    · exact keepAll_mem h.2 hm hk
theorem pick_spec {light : Nat → Bool} {ops : Array Oper} {listed : Array Bool} : ∀ {rs : List Nat} {i : Nat}, pickLight light ops listed rs = some i → i ∈ rs ∧ light i = true ∧ Region.free .any ops listed i = true
  | r :: rs, i, h => by
    simp only [pickLight] at h
    split at h
    · rename_i hc; cases h; simp at hc; exact ⟨by simp, hc.1, hc.2⟩
    · obtain ⟨h1, h2⟩ := pick_spec h; exact ⟨List.mem_cons_of_mem _ h1, h2⟩
theorem lv_light {i : Ins} {ev : Operand → Value} {G G' : GH} {v : Value} (h : isLd i = false) (hv : lv i ev G = some v) : lv i ev G' = some v := by
  cases i <;> first | (simp [isLd] at h; done) | exact hv
theorem lv_pure {P : Program} {o : Oper} {i : Ins} {a : Act} {W w : World} {G : GH} {v : Value} (hd : decI P o.op = i) (hl : isLd i = false) (h : lv i a.eval G = some v) (hw : Below W.heap.size W w) :
    (execOp a.eval o).run P w = .ok (.value v) w :=
  lv_sound (G := fun _ => none) (W := w) (decI_lv hd h) (lv_light hl h) ⟨Below.refl _ _, fun b e hb => (by cases hb), fun _ => Nat.le_refl _⟩

def Aof (ops : Array Oper) (i : Nat) : Nat → Bool := fun j => match ops[j]? with | some oj => !(oj.after.any fun e => Region.binds .any e && e.on == i) | none => true
theorem Aof_spec {ops : Array Oper} {i j : Nat} {oj : Oper} (hj : ops[j]? = some oj) (h : ∀ e ∈ oj.after, Region.binds .any e = true → e.on ≠ i) : Aof ops i j = true := by
  simp only [Aof, hj, Bool.not_eq_true']
  rw [Array.any_eq_false']
  intro e he
  simp only [Bool.and_eq_true, beq_iff_eq, not_and]
  exact h e he

/-- each pending condition is what a record says, or is there whenever anything is known. -/
def Ties (W : World) (ops : Array Oper) (R : List (Nat × (GH → Prop))) (L : List ((Nat → Bool) × (World → Prop))) : Prop :=
  ∀ p ∈ L, (∀ w G, Holds W w G → p.2 w) ∨ ∃ i q, (i, q) ∈ R ∧ p.1 = Aof ops i ∧ ∀ w G, Holds W w G → q G → p.2 w

theorem ties_keep {W w : World} {ops : Array Oper} {R : List (Nat × (GH → Prop))} {L : List ((Nat → Bool) × (World → Prop))} (h : Ties W ops R L) {j : Nat} {oj : Oper} (hj : ops[j]? = some oj) {lds : List Nat} (hlds : lds = R.map (·.1))
    {G : GH} (hw : Holds W w G) (hk : keepAll (keepOf ops oj lds) R G) : ∀ p ∈ L, p.1 j = true → p.2 w := by
  intro p hp hpj
  rcases h p hp with ht | ⟨i, q, hm, hA, hq⟩
  · exact ht w G hw
  · refine hq w G hw (keepAll_mem hk hm ?_)
    rw [hA] at hpj
    simp only [Aof, hj] at hpj
    simp only [keepOf, List.contains_iff_mem, List.mem_filter]
    exact ⟨by rw [hlds]; exact List.mem_map.2 ⟨(i, q), hm, rfl⟩, hpj⟩

theorem draw_sound {P : Program} {n : Nat} {ops : Array Oper} {K : List (Nat × (GH → Prop)) → (Nat → Value) → GH → Prop} {W : World} {Q : Exit → Act → World → Prop} (hsel : Region.noSelect ops = true)
    (hQ : ∀ R a w G, K R (TM a) G → Holds W w G → Fr n a → Q .normal a w) (hP : ∀ c a w, ¬ Q (.panic c) a w) :
    ∀ (fuel : Nat) (listed : Array Bool) (pl : List (Nat × Bool)) (lds : List Nat) (ds : List DOp) (R : List (Nat × (GH → Prop))) (L : List ((Nat → Bool) × (World → Prop))),
      planD (lightAt P ops) ops fuel listed = some pl → decPlan P n ops pl lds = some ds → lds = R.map (·.1) → Ties W ops R L →
      ∀ (a : Act) (w : World) (G : GH), Fr n a → Holds W w G → gD P ds R K (TM a) G → wpL P ops Q (lightAt P ops) L fuel listed a w := by
  intro fuel
  induction fuel with
  | zero =>
    intro listed pl lds ds R L hpl hds hlds hT a w G hf hw h
    simp only [planD] at hpl
    split at hpl
    · rename_i hr; cases hpl
      simp [decPlan] at hds; subst hds
      exact ⟨hr, hQ R a w G h hw hf⟩
    · cases hpl
  | succ fuel ih =>
    intro listed pl lds ds R L hpl hds hlds hT a w G hf hw h
    simp only [planD] at hpl
    split at hpl
    · rename_i hr; cases hpl
      simp [decPlan] at hds; subst hds
      exact ⟨fun _ => hQ R a w G h hw hf, by rw [hr]; simp⟩
    · rename_i hrne
      split at hpl
      · rename_i i hpick
        obtain ⟨pl', hpl', rfl⟩ := Option.map_eq_some_iff.1 hpl
        obtain ⟨hir, hli, hfree⟩ := pick_spec hpick
        simp only [decPlan] at hds
        obtain ⟨o, hoi, hds⟩ := Option.bind_eq_some_iff.1 hds
        obtain ⟨g, hg, hds⟩ := Option.bind_eq_some_iff.1 hds
        obtain ⟨ds', hds', rfl⟩ := Option.map_eq_some_iff.1 hds
        obtain ⟨h1, h2, h3, h4⟩ := decOp_spec hg
        have hput : ∀ v, TM (a.put o.dst v) = setd (TM a) g.d v := fun v => by rw [TM_put _ _ _ (fun t ht => by rw [hf.size]; exact h3 t ht), h2]
        simp only [gD, Bool.false_eq_true, if_false] at h
        by_cases hwt : gwant g.g (TM a) = true
        · rw [if_pos hwt] at h
          obtain ⟨v, hv, hrest⟩ := h
          cases hld : isLd g.i with
          | true =>
            simp only [hld, if_true] at hrest
            simp only [hld, Bool.not_false, Bool.and_self, if_true] at hds'
            refine wpL_first (A := Aof ops i) (S := fun w => ∃ G', Holds W w G' ∧ lv g.i (evT (TM a)) G' = some v) hoi hli (Region.noSelect_spec hsel) (fun c a w hq => absurd hq (hP _ _ _)) (fun j oj hj _ hno => Aof_spec hj hno)
              fuel listed a w (Region.free_spec hoi hfree) hir (.inl ⟨by rw [want_eq (n := n) h4]; exact hwt, fun w' ⟨G', hh, hl⟩ => lv_sound (decI_lv h1 hl) (by rw [eval_TM]; exact hl) hh⟩) ⟨G, hw, hv⟩ ?_
            refine ih _ pl' (i :: lds) ds' ((i, fun G' => lv g.i (evT (TM a)) G' = some v) :: R) _ hpl' hds' (by simp [hlds]) ?_ _ w G (hf.put _ _) hw (by rw [hput]; exact hrest)
            intro p hp
            rcases List.mem_cons.1 hp with e | hp
            · subst e; exact .inr ⟨i, _, by simp, rfl, fun w G hh hq => ⟨G, hh, hq⟩⟩
            · rcases hT p hp with ht | ⟨i', q, hm, hA, hq⟩
              · exact .inl ht
              · exact .inr ⟨i', q, List.mem_cons_of_mem _ hm, hA, hq⟩
          | false =>
            simp only [hld, Bool.false_eq_true, if_false] at hrest
            simp only [hld, Bool.false_and, Bool.false_eq_true, if_false] at hds'
            refine wpL_first (A := fun _ => true) (S := fun w => Below W.heap.size W w) hoi hli (Region.noSelect_spec hsel) (fun c a w hq => absurd hq (hP _ _ _)) (fun j oj hj _ hno => rfl)
              fuel listed a w (Region.free_spec hoi hfree) hir (.inl ⟨by rw [want_eq (n := n) h4]; exact hwt, fun w' hb => lv_pure h1 hld (by rw [eval_TM]; exact hv) hb⟩) hw.below ?_
            refine ih _ pl' lds ds' R _ hpl' hds' hlds ?_ _ w G (hf.put _ _) hw (by rw [hput]; exact hrest)
            intro p hp
            rcases List.mem_cons.1 hp with e | hp
            · subst e; exact .inl fun w G hh => hh.below
            · exact hT p hp
        · rw [if_neg hwt] at h
          have hlds' : ∃ lds2 R2, decPlan P n ops pl' lds2 = some ds' ∧ lds2 = R2.map (·.1) ∧ Ties W ops R2 (((fun _ => true), fun w => Below W.heap.size W w) :: L) ∧ gD P ds' R2 K (setd (TM a) g.d undef) G := by
            cases hld : isLd g.i with
            | true =>
              simp only [hld, Bool.not_false, Bool.and_self, if_true] at hds'
              have h2 := h.2
              rw [if_pos (by simp [hld])] at h2
              refine ⟨i :: lds, _, hds', by simp [hlds], ?_, h2⟩
              intro p hp
              rcases List.mem_cons.1 hp with e | hp
              · subst e; exact .inl fun w G hh => hh.below
              · rcases hT p hp with ht | ⟨i', q, hm, hA, hq⟩
                · exact .inl ht
                · exact .inr ⟨i', q, List.mem_cons_of_mem _ hm, hA, hq⟩
            | false =>
              simp only [hld, Bool.false_and, Bool.false_eq_true, if_false] at hds'
              have h2 := h.2
              rw [if_neg (by simp [hld])] at h2
              refine ⟨lds, R, hds', hlds, ?_, h2⟩
              intro p hp
              rcases List.mem_cons.1 hp with e | hp
              · subst e; exact .inl fun w G hh => hh.below
              · exact hT p hp
          obtain ⟨lds2, R2, e1, e2, e3, e4⟩ := hlds'
          refine wpL_first (A := fun _ => true) (S := fun w => Below W.heap.size W w) hoi hli (Region.noSelect_spec hsel) (fun c a w hq => absurd hq (hP _ _ _)) (fun j oj hj _ hno => rfl)
            fuel listed a w (Region.free_spec hoi hfree) hir (.inr ⟨by rw [want_eq (n := n) h4]; simpa using hwt, rfl⟩) hw.below ?_
          exact ih _ pl' lds2 ds' R2 _ hpl' e1 e2 e3 _ w G (hf.put _ _) hw (by rw [hput]; exact e4)
      · split at hpl
        · rename_i i hri
          split at hpl
          · cases hpl
          · rename_i hli
            obtain ⟨pl', hpl', rfl⟩ := Option.map_eq_some_iff.1 hpl
            simp only [decPlan] at hds
            obtain ⟨o, hoi, hds⟩ := Option.bind_eq_some_iff.1 hds
            obtain ⟨g, hg, hds⟩ := Option.bind_eq_some_iff.1 hds
            obtain ⟨ds', hds', rfl⟩ := Option.map_eq_some_iff.1 hds
            obtain ⟨h1, h2, h3, h4⟩ := decOp_spec hg
            have hput : ∀ v, TM (a.put o.dst v) = setd (TM a) g.d v := fun v => by rw [TM_put _ _ _ (fun t ht => by rw [hf.size]; exact h3 t ht), h2]
            simp only [Bool.not_true, Bool.and_false, Bool.false_eq_true, if_false] at hds'
            simp only [gD, if_true, Bool.not_true, Bool.and_false, Bool.false_eq_true, if_false] at h
            have hli' : lightAt P ops i = false := by simpa using hli
            refine ⟨fun h0 => absurd h0 hrne, fun j hj => ?_⟩
            rw [hri] at hj
            obtain rfl : j = i := by simpa using hj
            unfold wpOp
            simp only [hoi]
            rw [want_eq (n := n) h4]
            split
            · rename_i hwt
              rw [if_pos hwt, ← eval_TM] at h
              refine .inl (opI_sound h1 hw h _ _ fun v G' w' hk hh => ⟨⟨fun hl => (by rw [hli'] at hl; cases hl), fun _ => ties_keep hT hoi hlds hh hk.1⟩, ?_⟩)
              exact ih _ pl' lds ds' R L hpl' hds' hlds hT _ w' G' (hf.put _ _) hh (by rw [hput]; exact hk.2)
            · rename_i hwt
              rw [if_neg hwt] at h
              exact ⟨⟨fun hl => (by rw [hli'] at hl; cases hl), fun _ => ties_keep hT hoi hlds hw h.1⟩, ih _ pl' lds ds' R L hpl' hds' hlds hT _ w G (hf.put _ _) hw (by rw [hput]; exact h.2)⟩
        · cases hpl

theorem alt_spec {P : Program} {n : Nat} {ops : Array Oper} {lds : List Nat} {f : Nat → Option DT} {R : List (Nat × (GH → Prop))} {K : (Nat → Value) → GH → Prop} {T : Nat → Value} {G : GH} : ∀ (rs : List Nat) (t : DT), altT P n ops lds f rs = some t → gT P t R K T G →
    ∀ i ∈ rs, lightAt P ops i = false ∧ ∃ o g t', ops[i]? = some o ∧ decOp P n ops o = some g ∧ f i = some t' ∧ gT P (.path [⟨i, true, keepOf ops o lds, g⟩] t') R K T G := by
  have one : ∀ i t, oneT P n ops lds f i = some t → gT P t R K T G → lightAt P ops i = false ∧ ∃ o g t', ops[i]? = some o ∧ decOp P n ops o = some g ∧ f i = some t' ∧ gT P (.path [⟨i, true, keepOf ops o lds, g⟩] t') R K T G := fun i t h hg => by
    unfold oneT at h
    split at h
    · cases h
    · rename_i hl
      obtain ⟨o, ho, h⟩ := Option.bind_eq_some_iff.1 h
      obtain ⟨g, hgg, h⟩ := Option.bind_eq_some_iff.1 h
      obtain ⟨t', ht, rfl⟩ := Option.map_eq_some_iff.1 h
      exact ⟨by simpa using hl, o, g, t', ho, hgg, ht, hg⟩
  intro rs
  induction rs with
  | nil => intro t h; simp [altT] at h
  | cons i r ih =>
    intro t h hg j hj
    cases r with
    | nil =>
      simp only [altT] at h
      obtain rfl : j = i := by simpa using hj
      exact one _ _ h hg
    | cons i' r' =>
      simp only [altT] at h
      obtain ⟨a, ha, h⟩ := Option.bind_eq_some_iff.1 h
      obtain ⟨b, hb, rfl⟩ := Option.map_eq_some_iff.1 h
      rcases List.mem_cons.1 hj with rfl | hj
      · exact one _ _ ha hg.1
      · exact ih b hb hg.2 j hj

theorem tree_sound {P : Program} {n : Nat} {ops : Array Oper} {K : (Nat → Value) → GH → Prop} {W : World} {Q : Exit → Act → World → Prop} (hsel : Region.noSelect ops = true)
    (hQ : ∀ a w G, K (TM a) G → Holds W w G → Fr n a → Q .normal a w) (hP : ∀ c a w, ¬ Q (.panic c) a w) :
    ∀ (fuel : Nat) (listed : Array Bool) (t : DT) (lds : List Nat) (R : List (Nat × (GH → Prop))) (L : List ((Nat → Bool) × (World → Prop))),
      decT P n ops fuel listed lds = some t → lds = R.map (·.1) → Ties W ops R L →
      ∀ (a : Act) (w : World) (G : GH), Fr n a → Holds W w G → gT P t R K (TM a) G → wpL P ops Q (lightAt P ops) L fuel listed a w := by
  intro fuel
  induction fuel with
  | zero =>
    intro listed t lds R L hpl hlds hT a w G hf hw h
    simp only [decT] at hpl
    split at hpl
    · rename_i hr; cases hpl
      exact ⟨hr, hQ a w G h hw hf⟩
    · cases hpl
  | succ fuel ih =>
    intro listed t lds R L hpl hlds hT a w G hf hw h
    simp only [decT] at hpl
    split at hpl
    · rename_i hr; cases hpl
      exact ⟨fun _ => hQ a w G h hw hf, by rw [hr]; simp⟩
    · rename_i hrne
      split at hpl
      · rename_i i hpick
        obtain ⟨o, hoi, hpl⟩ := Option.bind_eq_some_iff.1 hpl
        obtain ⟨g, hg, hpl⟩ := Option.bind_eq_some_iff.1 hpl
        obtain ⟨t', hds', rfl⟩ := Option.map_eq_some_iff.1 hpl
        obtain ⟨hir, hli, hfree⟩ := pick_spec hpick
        obtain ⟨h1, h2, h3, h4⟩ := decOp_spec hg
        have hput : ∀ v, TM (a.put o.dst v) = setd (TM a) g.d v := fun v => by rw [TM_put _ _ _ (fun t ht => by rw [hf.size]; exact h3 t ht), h2]
        simp only [gT, gD, Bool.false_eq_true, if_false] at h
        by_cases hwt : gwant g.g (TM a) = true
        · rw [if_pos hwt] at h
          obtain ⟨v, hv, hrest⟩ := h
          cases hld : isLd g.i with
          | true =>
            simp only [hld, if_true] at hrest
            simp only [hld, if_true] at hds'
            refine wpL_first (A := Aof ops i) (S := fun w => ∃ G', Holds W w G' ∧ lv g.i (evT (TM a)) G' = some v) hoi hli (Region.noSelect_spec hsel) (fun c a w hq => absurd hq (hP _ _ _)) (fun j oj hj _ hno => Aof_spec hj hno)
              fuel listed a w (Region.free_spec hoi hfree) hir (.inl ⟨by rw [want_eq (n := n) h4]; exact hwt, fun w' ⟨G', hh, hl⟩ => lv_sound (decI_lv h1 hl) (by rw [eval_TM]; exact hl) hh⟩) ⟨G, hw, hv⟩ ?_
            refine ih _ t' (i :: lds) ((i, fun G' => lv g.i (evT (TM a)) G' = some v) :: R) _ hds' (by simp [hlds]) ?_ _ w G (hf.put _ _) hw (by rw [hput]; exact hrest)
            intro p hp
            rcases List.mem_cons.1 hp with e | hp
            · subst e; exact .inr ⟨i, _, by simp, rfl, fun w G hh hq => ⟨G, hh, hq⟩⟩
            · rcases hT p hp with ht | ⟨i', q, hm, hA, hq⟩
              · exact .inl ht
              · exact .inr ⟨i', q, List.mem_cons_of_mem _ hm, hA, hq⟩
          | false =>
            simp only [hld, Bool.false_eq_true, if_false] at hrest
            simp only [hld, Bool.false_eq_true, if_false] at hds'
            refine wpL_first (A := fun _ => true) (S := fun w => Below W.heap.size W w) hoi hli (Region.noSelect_spec hsel) (fun c a w hq => absurd hq (hP _ _ _)) (fun j oj hj _ hno => rfl)
              fuel listed a w (Region.free_spec hoi hfree) hir (.inl ⟨by rw [want_eq (n := n) h4]; exact hwt, fun w' hb => lv_pure h1 hld (by rw [eval_TM]; exact hv) hb⟩) hw.below ?_
            refine ih _ t' lds R _ hds' hlds ?_ _ w G (hf.put _ _) hw (by rw [hput]; exact hrest)
            intro p hp
            rcases List.mem_cons.1 hp with e | hp
            · subst e; exact .inl fun w G hh => hh.below
            · exact hT p hp
        · rw [if_neg hwt] at h
          have hlds' : ∃ lds2 R2, decT P n ops fuel (listed.setIfInBounds i true) lds2 = some t' ∧ lds2 = R2.map (·.1) ∧ Ties W ops R2 (((fun _ => true), fun w => Below W.heap.size W w) :: L) ∧ gT P t' R2 K (setd (TM a) g.d undef) G := by
            cases hld : isLd g.i with
            | true =>
              simp only [hld, if_true] at hds'
              have h2 := h.2
              rw [if_pos (by simp [hld])] at h2
              refine ⟨i :: lds, _, hds', by simp [hlds], ?_, h2⟩
              intro p hp
              rcases List.mem_cons.1 hp with e | hp
              · subst e; exact .inl fun w G hh => hh.below
              · rcases hT p hp with ht | ⟨i', q, hm, hA, hq⟩
                · exact .inl ht
                · exact .inr ⟨i', q, List.mem_cons_of_mem _ hm, hA, hq⟩
            | false =>
              simp only [hld, Bool.false_eq_true, if_false] at hds'
              have h2 := h.2
              rw [if_neg (by simp [hld])] at h2
              refine ⟨lds, R, hds', hlds, ?_, h2⟩
              intro p hp
              rcases List.mem_cons.1 hp with e | hp
              · subst e; exact .inl fun w G hh => hh.below
              · exact hT p hp
          obtain ⟨lds2, R2, e1, e2, e3, e4⟩ := hlds'
          refine wpL_first (A := fun _ => true) (S := fun w => Below W.heap.size W w) hoi hli (Region.noSelect_spec hsel) (fun c a w hq => absurd hq (hP _ _ _)) (fun j oj hj _ hno => rfl)
            fuel listed a w (Region.free_spec hoi hfree) hir (.inr ⟨by rw [want_eq (n := n) h4]; simpa using hwt, rfl⟩) hw.below ?_
          exact ih _ t' lds2 R2 _ e1 e2 e3 _ w G (hf.put _ _) hw (by rw [hput]; exact e4)
      · refine ⟨fun h0 => absurd h0 hrne, fun j hj => ?_⟩
        obtain ⟨hli', o, g, t', hoi, hg, hds', h⟩ := alt_spec _ t hpl h j hj
        obtain ⟨h1, h2, h3, h4⟩ := decOp_spec hg
        have hput : ∀ v, TM (a.put o.dst v) = setd (TM a) g.d v := fun v => by rw [TM_put _ _ _ (fun t ht => by rw [hf.size]; exact h3 t ht), h2]
        simp only [gT, gD, if_true, Bool.not_true, Bool.and_false, Bool.false_eq_true, if_false] at h
        unfold wpOp
        simp only [hoi]
        rw [want_eq (n := n) h4]
        split
        · rename_i hwt
          rw [if_pos hwt, ← eval_TM] at h
          refine .inl (opI_sound h1 hw h _ _ fun v G' w' hk hh => ⟨⟨fun hl => (by rw [hli'] at hl; cases hl), fun _ => ties_keep hT hoi hlds hh hk.1⟩, ?_⟩)
          exact ih _ t' lds R L hds' hlds hT _ w' G' (hf.put _ _) hh (by rw [hput]; exact hk.2)
        · rename_i hwt
          rw [if_neg hwt] at h
          exact ⟨⟨fun hl => (by rw [hli'] at hl; cases hl), fun _ => ties_keep hT hoi hlds hw h.1⟩, ih _ t' lds R L hds' hlds hT _ w G (hf.put _ _) hw (by rw [hput]; exact h.2)⟩

end Go.Proofs.YtnaoeggecibkmaaDoor.Gh
