/- The heavy operations do what gH says (make, store, append, call), and all of them together; a region in its written order. -/
import Derived.Test.YtnaoeggecibkmaaDoorFf
import Derived.IntWalk
namespace Go.Proofs.YtnaoeggecibkmaaDoor.Gh
open Go Go.RowKit
set_option linter.unusedVariables false
set_option linter.unusedSimpArgs false

theorem mk_sound {P : Program} {o : Oper} {t e : TypeId} {i : TypeInfo} {l c : Operand} {z : List Value} {a : Act} {W w : World} {G : GH} {K : Value → GH → Prop} (ho : o.op = .makeSlice t l c) (ht : P.underlying t = some (.slice e))
    (hi : P.info? e = some i) (hz : cellsZ P e = some z) (hl : z.length = i.size ∧ 0 < i.size) (hw : Holds W w G) (h : gMk i.size i.bytes z (a.eval l) (a.eval c) G K) : OpOk P o a W w K := by
  obtain ⟨m, k, h1, h2, h3, h4, h5, h6⟩ := h
  obtain ⟨u, hu, hc⟩ := cellsZ_run hz w
  refine OpOk.value (v := .slice (some ⟨w.heap.size, 0, none⟩) m k) ?_ (h6 _ hw.fresh) (hw.alloc (zc z k) e)
  rw [execOp.eq_def]; simp only [ho]
  refine fin_run ?_
  have wrap_id : ∀ q : Nat, q < 2 ^ 62 → IntKind.i64.wrap (q : Int) = q := fun q hq => by rw [IntKind.wrap_i64]; omega
  have hb : (i.bytes : Int) * k ≤ 2 ^ 48 := by
    have h' : ((k * i.bytes : Nat) : Int) ≤ ((2 ^ 48 : Nat) : Int) := Int.ofNat_le.2 h4
    rw [Int.natCast_mul, Int.mul_comm] at h'
    simpa using h'
  have hc1 : (decide ((k : Int) < 0) || decide ((i.bytes : Int) * k > 2 ^ 48) || decide ((m : Int) < 0) || decide ((m : Int) > k)) = false := by
    simp only [Bool.or_eq_false_iff, decide_eq_false_iff_not]; refine ⟨⟨⟨?_, ?_⟩, ?_⟩, ?_⟩ <;> omega
  unfold Instr.makeSlice
  simp only [Sem.run_bind, und_run ht, Result.andThen_ok, info_run hi, h1, h2, asInt, asIntOf, Sem.run_pure, wrap_id m (by omega), wrap_id k h5, hc1, Bool.false_eq_true, if_false, run_askRoom, Int.toNat_natCast,
    szOf_run (show szOf P e = some i.size by simp [szOf, hi])]
  have hrow : ∀ zz : Array Value, zz = z.toArray ∨ k * i.size = 0 → ((Array.range (k * i.size)).map fun j => zz[j % zz.size]!) = (zc z k).toArray := fun zz hzz => by
    rw [← Array.toList_inj]
    simp only [zc, Array.toList_map, Array.toList_range, hl.1]
    apply List.map_congr_left
    intro j hj
    have hj : j < k * i.size := by simpa using hj
    rcases hzz with rfl | h0
    · have : j % i.size < i.size := Nat.mod_lt _ hl.2
      simp [hl.1, this, List.getD]
    · omega
  by_cases h0 : k * i.size = 0
  · have := hrow #[] (.inr h0)
    rw [h0] at this
    simp only [h0, if_true, Sem.run_bind, Sem.run_pure, Result.andThen_ok]
    rw [this]
    simp [newRow]
  · simp only [h0, if_false, Sem.run_bind, hu, Result.andThen_ok, Sem.run_pure, hc]
    rw [hrow _ (.inl rfl)]
    simp [newRow]

theorem st_sound {P : Program} {o : Oper} {t : TypeId} {n : Nat} {p x : Operand} {a : Act} {W w : World} {G : GH} {K : Value → GH → Prop} (ho : o.op = .store t p x) (hs : szOf P t = some n) (hw : Holds W w G)
    (h : gSt n (a.eval p) (a.eval x) G K) : OpOk P o a W w K := by
  obtain ⟨b, off, cs, h1, h2, h3, h4, h5, h6⟩ := h
  obtain ⟨w', hr, hw'⟩ := stores_run (P := P) b off (a.eval x).cells.toList 0 cs w G hw h2 (by simp [h3]; omega) h5
  refine OpOk.skip ?_ h6 (by simpa using hw')
  rw [execOp.eq_def]; simp only [ho]
  simp only [Sem.run_bind, h1, Instr.storeAt, Instr.sureAddr, Sem.run_pure, Result.andThen_ok, storeVar, szOf_run hs]
  simp [h3, hr]

theorem growBy_le (need : Nat) : ∀ (r c : Nat), 256 ≤ c → c ≤ 2 * need → Builtin.growBy need r c ≤ 2 * need
  | 0, c, _, h => by simpa [Builtin.growBy] using h
  | r + 1, c, h0, h => by
    simp only [Builtin.growBy]
    split
    · exact h
    · exact growBy_le need r _ (by omega) (by omega)
theorem nextcap_le {need old : Nat} (h : old < need) : Builtin.nextslicecap need old ≤ 2 * need := by
  unfold Builtin.nextslicecap
  split
  · omega
  · split
    · omega
    · exact growBy_le need 4 old (by omega) (by omega)

theorem first_run {P : Program} {W w : World} {G : GH} (hw : Holds W w G) {B : Option Addr} {m d sz : Nat} {news : List Value} (hl : news.length = m * sz) (hn : ∀ (j : Nat) v, news[j]? = some v → rd G (pa B j) = some v) :
    (Builtin.firstCells sz m (.slice B m d)).run P w = .ok news.toArray w := by
  cases B with
  | none =>
    cases news with
    | nil => simp [Builtin.firstCells]
    | cons v news => have := hn 0 v rfl; simp [pa, rd] at this
  | some a =>
    simp only [Builtin.firstCells]
    rw [← hl]
    exact run_loadCells_list (P := P) (w := w) a news (fun j v hj => hw.cell (hn j v hj))

theorem zero_run (z : List Value) (n : Nat) : Builtin.zeroCells z.toArray n = (zc z n).toArray := by
  rw [← Array.toList_inj]
  simp only [Builtin.zeroCells, zc, Array.toList_map, Array.toList_range, List.size_toArray]
  apply List.map_congr_left
  intro i hi
  have hi : i < n * z.length := by simpa using hi
  have h : i % z.length < z.length := Nat.mod_lt _ (by rcases Nat.eq_zero_or_pos z.length with h | h; · rw [h] at hi; omega
                                                       · exact h)
  simp [h, List.getD]

theorem ap_sound {P : Program} {o : Oper} {t t' e e' : TypeId} {i : TypeInfo} {s x : Operand} {z : List Value} {a : Act} {W w : World} {G : GH} {K : Value → GH → Prop} {c : Call} (ho : o.op = .call c) (hcc : c.callee = .builtin .append)
    (hca : c.args.toList = [s, x]) (hct : c.argTypes.toList = [t, t']) (ht : P.underlying t = some (.slice e)) (ht' : P.underlying t' = some (.slice e')) (hi : P.info? e = some i) (hz : cellsZ P e = some z)
    (hl : z.length = i.size ∧ 0 < i.size ∧ 0 < i.bytes) (hw : Holds W w G) (h : gAp i.size i.bytes z (a.eval s) (a.eval x) G K) : OpOk P o a W w K := by
  obtain ⟨A, n, cp, B, m, d, olds, news, h1, h2, h3, h4, h5, h6, h7, h8, h9, h10, h11⟩ := h
  obtain ⟨u, hu, hc⟩ := cellsZ_run hz w
  have ea : c.args = #[s, x] := by simpa using congrArg List.toArray hca
  have et : c.argTypes = #[t, t'] := by simpa using congrArg List.toArray hct
  have hs : szOf P e = some i.size := by simp [szOf, hi]
  have hold := first_run (P := P) hw (d := cp) h3 h4
  have hnew := first_run (P := P) hw (d := d) h5 h6
  have hex : ∀ (w' : World) (v : Value), (Builtin.append_ #[t, t'] o.type #[.slice A n cp, .slice B m d]).run P w = .ok v w' → (execOp a.eval o).run P w = .ok (.value v) w' := fun w' v hr => by
    rw [execOp.eq_def]; simp only [ho, hcc, resolve, ea, et, Sem.run_bind, Sem.run_pure, Result.andThen_ok, invoke, builtin]
    simp only [List.map_toArray, List.map_cons, List.map_nil, h1, h2, hr, Result.andThen_ok, Sem.run_pure]
  by_cases hle : n + m ≤ cp
  · rcases h10 hle with ⟨rfl, G', hsub, hk⟩ | ⟨b, off, cs, rfl, hb, hoff, G', hsub, hk⟩
    · refine OpOk.value (hex w (.slice A n cp) ?_) hk (hw.sub hsub)
      have hn0 : news = [] := by simpa using h5
      subst hn0
      cases A with
      | none =>
        simp [Builtin.append_, und_run ht, und_run ht', szOf_run hs, Builtin.lenOf, hnew, show n ≤ cp by omega]
      | some A =>
        simp [Builtin.append_, und_run ht, und_run ht', szOf_run hs, Builtin.lenOf, hnew, show n ≤ cp by omega, storeCells]
    · have hadd : (⟨b, off, none⟩ : Addr).add (n * i.size) = ⟨b, off + n * i.size, none⟩ := by unfold Addr.add; split <;> simp_all
      have hlen2 : off + n * i.size + 0 + news.length ≤ cs.length := by rw [h5]; rw [Nat.add_mul] at hoff; omega
      obtain ⟨w', hr, hw'⟩ := stores_run (P := P) b (off + n * i.size) news 0 cs w G hw hb hlen2 h7
      refine OpOk.value (hex w' (.slice (some ⟨b, off, none⟩) (n + m) cp) ?_) hk ((by simpa using hw' : Holds W w' _).sub hsub)
      simp [Builtin.append_, und_run ht, und_run ht', szOf_run hs, Builtin.lenOf, hnew, hle, hadd, hr]
  · have hlt : cp < n + m := by omega
    have hcap : (n + m) ≤ (Question.appendCap (n + m) cp e).cut (w.tape w.drawn (.appendCap (n + m) cp e)) := by simp [Question.cut]
    obtain ⟨G', hsub, hk⟩ := h11 hlt w.heap.size _ hw.fresh hcap
    generalize hcq : (Question.appendCap (n + m) cp e).cut (w.tape w.drawn (.appendCap (n + m) cp e)) = c' at hk hcap hsub
    refine OpOk.value (hex _ (.slice (some ⟨w.heap.size, 0, none⟩) (n + m) c') ?_) hk ((hw.drew.alloc (olds ++ news ++ zc z (c' - (n + m))) e).sub hsub)
    have hbig : ¬ (((n : Int) + m > 9223372036854775807) ∧ i.bytes = 0) := by omega
    have hnx : ¬ (Builtin.nextslicecap (n + m) cp * i.bytes > 2 ^ 48) := by
      have h1 := nextcap_le hlt
      have h2 : Builtin.nextslicecap (n + m) cp * i.bytes ≤ 2 * (n + m) * i.bytes := Nat.mul_le_mul_right _ h1
      omega
    have hnz : i.bytes ≠ 0 := by omega
    have hold' : ∀ w'', Holds W w'' G → (Builtin.firstCells i.size n (.slice A n cp)).run P w'' = .ok olds.toArray w'' := fun w'' hh => first_run (P := P) hh h3 h4
    have hnew' : ∀ w'', Holds W w'' G → (Builtin.firstCells i.size m (.slice B m d)).run P w'' = .ok news.toArray w'' := fun w'' hh => first_run (P := P) hh h5 h6
    obtain ⟨u2, hu2, hc2⟩ := cellsZ_run (P := P) hz { w with drawn := w.drawn + 1 }
    simp only [Builtin.append_, Sem.run_bind, List.getElem?_toArray, List.getElem?_cons_zero, List.getElem?_cons_succ, und_run ht, und_run ht', szOf_run hs, Result.andThen_ok, Builtin.lenOf, Sem.run_pure,
      Bool.false_eq_true, if_false, Bool.not_false, if_true, hle, info_run hi, Sem.run_ite]
    simp only [hnz, false_or, and_false, or_false, if_false, hnx, run_choose, Question.forced, Bool.false_eq_true, Result.andThen_ok, run_askRoom, hcq]
    simp only [hold' _ hw.drew, hnew' _ hw.drew, Result.andThen_ok, hu2, hc2, zero_run]
    simp [newRow]
    exact ⟨rfl, rfl, rfl⟩

theorem apz_sound {P : Program} {o : Oper} {t t' e : TypeId} {k : IntKind} {i : TypeInfo} {s x : Operand} {z : List Value} {a : Act} {W w : World} {G : GH} {K : Value → GH → Prop} {c : Call} (ho : o.op = .call c) (hcc : c.callee = .builtin .append)
    (hca : c.args.toList = [s, x]) (hct : c.argTypes.toList = [t, t']) (ht : P.underlying t = some (.slice e)) (ht' : P.underlying t' = some (.int k)) (hi : P.info? e = some i) (hz : cellsZ P e = some z)
    (hl : z.length = i.size ∧ 0 < i.size ∧ 0 < i.bytes) (hw : Holds W w G) (h : gApz i.size i.bytes z (a.eval s) (a.eval x) G K) : OpOk P o a W w K := by
  obtain ⟨A, n, cp, m, olds, h1, h2, h3, h4, h8, h9, hm, hlt, h11⟩ := h
  have ea : c.args = #[s, x] := by simpa using congrArg List.toArray hca
  have et : c.argTypes = #[t, t'] := by simpa using congrArg List.toArray hct
  have hs : szOf P e = some i.size := by simp [szOf, hi]
  have hex : ∀ (w' : World) (v : Value), (Builtin.append_ #[t, t'] o.type #[.slice A n cp, .int .i64 m]).run P w = .ok v w' → (execOp a.eval o).run P w = .ok (.value v) w' := fun w' v hr => by
    rw [execOp.eq_def]; simp only [ho, hcc, resolve, ea, et, Sem.run_bind, Sem.run_pure, Result.andThen_ok, invoke, builtin]
    simp only [List.map_toArray, List.map_cons, List.map_nil, h1, h2, hr, Result.andThen_ok, Sem.run_pure]
  have hcap : (n + m) ≤ (Question.appendCap (n + m) cp e).cut (w.tape w.drawn (.appendCap (n + m) cp e)) := by simp [Question.cut]
  obtain ⟨G', hsub, hk⟩ := h11 w.heap.size _ hw.fresh hcap
  generalize hcq : (Question.appendCap (n + m) cp e).cut (w.tape w.drawn (.appendCap (n + m) cp e)) = c' at hk hcap hsub
  refine OpOk.value (hex _ (.slice (some ⟨w.heap.size, 0, none⟩) (n + m) c') ?_) hk ((hw.drew.alloc (olds ++ zc z m ++ zc z (c' - (n + m))) e).sub hsub)
  have hle : ¬ (n + m ≤ cp) := by omega
  have hbig : ¬ (((n + m : Nat) : Int) > IntKind.i64.max) := by
    have : IntKind.i64.max = 9223372036854775807 := rfl
    omega
  have hwr : IntKind.i64.wrap (m : Int) = m := by rw [IntKind.wrap_i64]; omega
  have hm0 : ¬ ((m : Int) < 0) := by omega
  have hmz : ¬ (m * i.size = 0) := by
    intro h; rcases Nat.mul_eq_zero.1 h with h | h <;> omega
  have hmb : ¬ ((m : Int) * (i.bytes : Int) > 2 ^ 48) := by
    have h' : m * i.bytes ≤ 2 * (n + m) * i.bytes := Nat.mul_le_mul_right _ (by omega)
    have h2 : ((m * i.bytes : Nat) : Int) ≤ ((2 ^ 48 : Nat) : Int) := Int.ofNat_le.2 (by omega)
    rw [Int.natCast_mul] at h2
    have h3 : (m : Int) * (i.bytes : Int) ≤ 2 ^ 48 := by simpa using h2
    omega
  have hnx : ¬ (Builtin.nextslicecap (n + m) cp * i.bytes > 2 ^ 48) := by
    have h1 := nextcap_le hlt
    have h2 : Builtin.nextslicecap (n + m) cp * i.bytes ≤ 2 * (n + m) * i.bytes := Nat.mul_le_mul_right _ h1
    omega
  have hnz : i.bytes ≠ 0 := by omega
  have hold' : ∀ w'', Holds W w'' G → (Builtin.firstCells i.size n (.slice A n cp)).run P w'' = .ok olds.toArray w'' := fun w'' hh => first_run (P := P) hh h3 h4
  obtain ⟨u2, hu2, hc2⟩ := cellsZ_run (P := P) hz { w with drawn := w.drawn + 1 }
  simp only [Builtin.append_, Sem.run_bind, List.getElem?_toArray, List.getElem?_cons_zero, List.getElem?_cons_succ, und_run ht, und_run ht', szOf_run hs, Result.andThen_ok, Builtin.lenOf, Sem.run_pure,
    asInt, asIntOf, hwr, Int.toNat_natCast, hm0, hmb,
    Bool.false_eq_true, if_false, Bool.not_false, Bool.not_true, if_true, hle, info_run hi, Sem.run_ite]
  simp only [hbig, false_and, hnz, false_or, and_false, or_false, if_false, hnx, run_choose, Question.forced, Bool.false_eq_true, Result.andThen_ok, run_askRoom, hcq]
  simp only [hold' _ hw.drew, Result.andThen_ok, hu2, hc2, zero_run, hmz, if_false]
  simp [newRow]
  exact ⟨rfl, rfl, rfl⟩

theorem clr_sound {P : Program} {o : Oper} {t e : TypeId} {n0 : Nat} {x : Operand} {z : List Value} {a : Act} {W w : World} {G : GH} {K : Value → GH → Prop} {c : Call} (ho : o.op = .call c) (hcc : c.callee = .builtin .clear)
    (hca : c.args.toList = [x]) (hct : c.argTypes.toList = [t]) (ht : P.underlying t = some (.slice e)) (hs : szOf P e = some n0) (hz : cellsZ P e = some z)
    (hl : z.length = n0 ∧ 0 < n0) (hw : Holds W w G) (h : gClr n0 z (a.eval x) G K) : OpOk P o a W w K := by
  obtain ⟨A, n, cp, h1, h2⟩ := h
  obtain ⟨u, hu, hc⟩ := cellsZ_run hz w
  have ea : c.args = #[x] := by simpa using congrArg List.toArray hca
  have et : c.argTypes = #[t] := by simpa using congrArg List.toArray hct
  have hex : ∀ (w' : World) (v : Value), (Builtin.clear_ #[t] o.type #[.slice A n cp]).run P w = .ok v w' → (execOp a.eval o).run P w = .ok (.value v) w' := fun w' v hr => by
    rw [execOp.eq_def]; simp only [ho, hcc, resolve, ea, et, Sem.run_bind, Sem.run_pure, Result.andThen_ok, invoke, builtin]
    simp only [List.map_toArray, List.map_cons, List.map_nil, h1, hr, Result.andThen_ok, Sem.run_pure]
  rcases h2 with ⟨rfl, hk⟩ | ⟨b, off, cs, rfl, hb, hoff, h7, hk⟩
  · refine OpOk.value (hex w (.tuple #[]) ?_) hk hw
    cases A <;> simp [Builtin.clear_, und_run ht]
  · cases n with
    | zero =>
      have e0 : zc z 0 = [] := by simp [zc]
      rw [e0] at hk
      simp only [over] at hk
      rw [put_self hb] at hk
      refine OpOk.value (hex w (.tuple #[]) ?_) hk hw
      simp [Builtin.clear_, und_run ht]
    | succ n =>
      have hlz : (zc z (n + 1)).length = (n + 1) * n0 := by simp [zc, hl.1]
      obtain ⟨w', hr, hw'⟩ := stores_run (P := P) b off (zc z (n + 1)) 0 cs w G hw hb (by rw [hlz]; omega) h7
      refine OpOk.value (hex w' (.tuple #[]) ?_) hk (by simpa using hw')
      simp [Builtin.clear_, und_run ht, hu, hc, zero_run, hr]

end Go.Proofs.YtnaoeggecibkmaaDoor.Gh
