/-
  The plain law of TvaluesDeep: how lists, tables, and dotted words within one another are read. No program in sight.
-/
import Derived.Test.YtkcnbhenhmmfgaaGreatDoorTw
set_option linter.all false
set_option linter.unusedVariables false
set_option linter.unusedSimpArgs false
namespace Go.Proofs.YtkcnbhenhmmfgaaGreatDoor.Pl

theorem get_drop (s : Bs) (n : Nat) (c : UInt8) (r : Bs) (h : s.drop n = c :: r) : s[n]? = some c := by
  have : (s.drop n)[0]? = some c := by rw [h]; rfl
  simpa using this
theorem drop_get (s : Bs) (n : Nat) (c : UInt8) (h : s[n]? = some c) : s.drop n = c :: s.drop (n + 1) := by
  obtain ⟨h1, h2⟩ := List.getElem?_eq_some_iff.1 h
  rw [List.drop_eq_getElem_cons h1, h2]
theorem byteAt_get (s : Bs) (n : Nat) (c : UInt8) (h : s[n]? = some c) : byteAt s n = c.toNat := by unfold byteAt; rw [h]
theorem blanksAt_self (s : Bs) (n : Nat) (c : UInt8) (hc : s[n]? = some c) (h : isBlank c = false) : blanksAt s n = n := by
  unfold blanksAt blanks
  rw [drop_get s n c hc, List.takeWhile_cons, if_neg (by rw [h]; simp)]
  rfl
theorem gapAt_self (s : Bs) (n : Nat) (c : UInt8) (hc : s[n]? = some c) (h : c = 91 ∨ c = 49 ∨ c = 93 ∨ c = 123 ∨ c = 125) : gapAt s n = .ok n := by
  apply gapAt_stop
  unfold gapStep
  rw [drop_get s n c hc]
  have hb : blanks (c :: s.drop (n + 1)) = 0 := by
    unfold blanks
    rw [List.takeWhile_cons, if_neg (by rcases h with rfl | rfl | rfl | rfl | rfl <;> decide)]
    rfl
  rw [hb]
  rcases h with rfl | rfl | rfl | rfl | rfl <;> rfl

theorem valueF_list (E : Env) (s : Bs) (f d n : Nat) (st : Nds) (h : byteAt s n = 91) : valueF E s (f + 1) d n st = listS (valueF E s f) s d n st := by
  rw [valueF]; simp [h]
theorem valueF_table (E : Env) (s : Bs) (f d n : Nat) (st : Nds) (h : byteAt s n = 123) : valueF E s (f + 1) d n st = tableS E (valueF E s f) s d n st := by
  rw [valueF]; simp [h]
theorem scalS_one (c : UInt8) (h : c = 93 ∨ c = 125) (l : Bs) : scalS (49 :: c :: l) = .ok (4, [49], 1) := by
  rcases h with rfl | rfl <;> rfl
theorem valueF_one (E : Env) (hE : E.scal = scalS) (s : Bs) (f d n : Nat) (st : Nds) (c : UInt8) (h1 : s[n]? = some 49) (h2 : s[n + 1]? = some c) (hc : c = 93 ∨ c = 125) (hr : st.length ≤ 20000000) :
    valueF E s (f + 1) d n st = .ok (st.length, n + 1, st ++ [leaf 4 [49] n (n + 1)]) := by
  have hb : byteAt s n = 49 := byteAt_get s n 49 h1
  rw [valueF]
  simp only [hb]
  rw [if_neg (by decide), if_neg (by decide), if_neg (by decide), hE, drop_get s n 49 h1, drop_get s (n + 1) c h2, scalS_one c hc]
  simp only
  rw [if_pos (by simp [room]; omega)]

/-! lists -/
def listsT (n : Nat) : Bs := List.replicate n 91 ++ 49 :: List.replicate n 93
theorem listsT_length (n : Nat) : (listsT n).length = 2 * n + 1 := by simp [listsT]; omega
theorem listsT_a (n p : Nat) (h : p < n) : (listsT n)[p]? = some 91 := by
  unfold listsT; rw [List.getElem?_append_left (by simpa using h)]; simp [h]
theorem listsT_b (n : Nat) : (listsT n)[n]? = some 49 := by
  unfold listsT; rw [List.getElem?_append_right (by simp)]; simp
theorem listsT_c (n p : Nat) (h : p < n) : (listsT n)[n + 1 + p]? = some 93 := by
  unfold listsT
  rw [List.getElem?_append_right (by simp; omega)]
  rw [List.length_replicate, show n + 1 + p - n = p + 1 from by omega, List.getElem?_cons_succ]
  simp [h]

theorem lists_read (E : Env) (hE : E.scal = scalS) (n : Nat) (hn : 1 ≤ n) : ∀ (q p f d : Nat) (st : Nds), p + q = n → q < f → d + q ≤ 257 → st.length + q ≤ 20000000 →
    ∃ i M, valueF E (listsT n) f d p st = .ok (i, n + 1 + q, st ++ M) ∧ M.length = q + 1 := by
  intro q
  induction q with
  | zero =>
    intro p f d st h1 h2 h3 h4
    obtain rfl : p = n := by omega
    obtain ⟨f, rfl⟩ : ∃ g, f = g + 1 := ⟨f - 1, by omega⟩
    have hc := listsT_c p 0 (by omega)
    exact ⟨_, _, valueF_one E hE _ f d p st 93 (listsT_b p) hc (.inl rfl) (by omega), rfl⟩
  | succ q ih =>
    intro p f d st h1 h2 h3 h4
    obtain ⟨f, rfl⟩ : ∃ g, f = g + 1 := ⟨f - 1, by omega⟩
    obtain ⟨i, M, hv, hM⟩ := ih (p + 1) f (d + 1) st (by omega) (by omega) (by omega) (by omega)
    rw [valueF_list _ _ _ _ _ _ (byteAt_get _ _ _ (listsT_a n p (by omega)))]
    have hnext : ∃ c, (listsT n)[p + 1]? = some c ∧ (c = 91 ∨ c = 49) := by
      by_cases hp : p + 1 < n
      · exact ⟨91, listsT_a n _ hp, .inl rfl⟩
      · obtain rfl : p + 1 = n := by omega
        exact ⟨49, listsT_b _, .inr rfl⟩
    obtain ⟨c, hc, hc2⟩ := hnext
    have hg1 : gapAt (listsT n) (p + 1) = .ok (p + 1) := gapAt_self _ _ c hc (by rcases hc2 with rfl | rfl <;> simp)
    have hcl := listsT_c n q (by omega)
    have hg2 : gapAt (listsT n) (n + 1 + q) = .ok (n + 1 + q) := gapAt_self _ _ _ hcl (by simp)
    have hnb : ¬ byteAt (listsT n) (p + 1) = 93 := by
      rw [byteAt_get _ _ _ hc]; rcases hc2 with rfl | rfl <;> decide
    refine ⟨(st ++ M).length, M ++ [listNd [i] p (n + 1 + (q + 1))], ?_, by simp [hM]⟩
    unfold listS
    rw [if_neg (by omega), hg1]
    simp only
    rw [listF, if_neg hnb, hv]
    simp only [List.length_nil]
    rw [if_neg (by omega), hg2]
    simp only
    rw [if_pos (show byteAt _ _ = 93 from byteAt_get _ _ _ hcl)]
    simp only
    rw [if_pos (by simp [room, hM]; omega)]
    simp [listNd, Nat.add_assoc]

theorem lists_deep (E : Env) (n : Nat) : ∀ (r p f d : Nat) (st : Nds), d + r = 257 → p + r < n → r < f → valueF E (listsT n) f d p st = .bad 4 (p + r) := by
  intro r
  induction r with
  | zero =>
    intro p f d st h1 h2 h3
    obtain ⟨f, rfl⟩ : ∃ g, f = g + 1 := ⟨f - 1, by omega⟩
    rw [valueF_list _ _ _ _ _ _ (byteAt_get _ _ _ (listsT_a n p (by omega)))]
    unfold listS
    rw [if_pos (by omega)]
    rfl
  | succ r ih =>
    intro p f d st h1 h2 h3
    obtain ⟨f, rfl⟩ : ∃ g, f = g + 1 := ⟨f - 1, by omega⟩
    have hv := ih (p + 1) f (d + 1) st (by omega) (by omega) (by omega)
    rw [valueF_list _ _ _ _ _ _ (byteAt_get _ _ _ (listsT_a n p (by omega)))]
    have hc := listsT_a n (p + 1) (by omega)
    have hg1 : gapAt (listsT n) (p + 1) = .ok (p + 1) := gapAt_self _ _ 91 hc (by simp)
    have hnb : ¬ byteAt (listsT n) (p + 1) = 93 := by rw [byteAt_get _ _ _ hc]; decide
    unfold listS
    rw [if_neg (by omega), hg1]
    simp only
    rw [listF, if_neg hnb, hv]
    simp only
    rw [show p + 1 + r = p + (r + 1) from by omega]

/-! tables -/
def aeq : Nat → Bs → Bs
  | 0, l => l
  | n + 1, l => 123 :: 97 :: 61 :: aeq n l
def tabsT (n : Nat) : Bs := aeq n (49 :: List.replicate n 125)
theorem aeq_length (n : Nat) (l : Bs) : (aeq n l).length = 3 * n + l.length := by
  induction n with
  | zero => simp [aeq]
  | succ n ih => simp [aeq, ih]; omega
theorem aeq_get (n : Nat) (l : Bs) : ∀ p, p < n → (aeq n l)[3 * p]? = some 123 ∧ (aeq n l)[3 * p + 1]? = some 97 ∧ (aeq n l)[3 * p + 2]? = some 61 := by
  induction n with
  | zero => intro p h; omega
  | succ n ih =>
    intro p h
    cases p with
    | zero => exact ⟨rfl, rfl, rfl⟩
    | succ p =>
      have := ih p (by omega)
      simp only [aeq, show 3 * (p + 1) = 3 * p + 1 + 1 + 1 from by omega, show 3 * p + 1 + 1 + 1 + 1 = 3 * p + 1 + 1 + 1 + 1 from rfl, List.getElem?_cons_succ]
      exact this
theorem aeq_behind (n : Nat) (l : Bs) (j : Nat) : (aeq n l)[3 * n + j]? = l[j]? := by
  induction n with
  | zero => simp [aeq]
  | succ n ih =>
    rw [show 3 * (n + 1) + j = 3 * n + j + 1 + 1 + 1 from by omega]
    simpa [aeq] using ih
theorem tabsT_b (n : Nat) : (tabsT n)[3 * n]? = some 49 := by
  have := aeq_behind n (49 :: List.replicate n 125) 0
  simpa [tabsT] using this
theorem tabsT_c (n p : Nat) (h : p < n) : (tabsT n)[3 * n + 1 + p]? = some 125 := by
  have := aeq_behind n (49 :: List.replicate n 125) (1 + p)
  rw [show 3 * n + 1 + p = 3 * n + (1 + p) from by omega]
  unfold tabsT
  rw [this, Nat.add_comm 1 p, List.getElem?_cons_succ]
  simp [h]
theorem tabsT_length (n : Nat) : (tabsT n).length = 4 * n + 1 := by
  unfold tabsT; rw [aeq_length]; simp; omega

theorem word_a (E : Env) (s : Bs) (n : Nat) (c : UInt8) (h1 : s[n]? = some 97) (h2 : s[n + 1]? = some c) (hc : c = 61 ∨ c = 46) : word E s n = .ok ([97], n + 1) := by
  unfold word
  have hd : s.drop n = 97 :: c :: s.drop (n + 2) := by rw [drop_get s n _ h1, drop_get s (n + 1) _ h2]
  have hl : longAt s n = false := by
    unfold longAt
    rw [hd]
    rcases hc with rfl | rfl <;> rfl
  have hbr : bareRun (97 :: c :: s.drop (n + 2)) = 1 := by
    unfold bareRun
    rcases hc with rfl | rfl <;> rfl
  rw [hl, hd, hbr]
  rfl

theorem key_one (E : Env) (s : Bs) (n : Nat) (h1 : s[n]? = some 97) (h2 : s[n + 1]? = some 61) : keyS E s n = .ok ([([97], n, n + 1)], n + 1) := by
  unfold keyS
  rw [keyF, word_a E s n 61 h1 h2 (.inl rfl)]
  simp only
  rw [blanksAt_self s (n + 1) 61 h2 (by decide), if_neg (by rw [byteAt_get _ _ _ h2]; decide)]
  rfl

theorem modify_right {α : Type} (f : α → α) (x : α) (m : List α) : ∀ l : List α, (l ++ x :: m).modify l.length f = l ++ f x :: m
  | [] => rfl
  | y :: l => by
    show (y :: (l ++ x :: m)).modify (l.length + 1) f = y :: (l ++ f x :: m)
    rw [List.modify_succ_cons, modify_right f x m l]

theorem findIdx_nil (w : Bs) : ([] : List Bs).findIdx? (fun x => x == w) = none := rfl

theorem tables_read (E : Env) (hE : E.scal = scalS) (n : Nat) (hn : 1 ≤ n) : ∀ (q p f d : Nat) (st : Nds), p + q = n → q < f → d + q ≤ 257 → st.length + q ≤ 20000000 →
    ∃ i M, valueF E (tabsT n) f d (3 * p) st = .ok (i, 3 * n + 1 + q, st ++ M) ∧ M.length = q + 1 := by
  intro q
  induction q with
  | zero =>
    intro p f d st h1 h2 h3 h4
    obtain rfl : p = n := by omega
    obtain ⟨f, rfl⟩ : ∃ g, f = g + 1 := ⟨f - 1, by omega⟩
    have hc := tabsT_c p 0 (by omega)
    exact ⟨_, _, valueF_one E hE _ f d (3 * p) st 125 (tabsT_b p) hc (.inr rfl) (by omega), rfl⟩
  | succ q ih =>
    intro p f d st h1 h2 h3 h4
    obtain ⟨f, rfl⟩ : ∃ g, f = g + 1 := ⟨f - 1, by omega⟩
    obtain ⟨i, M, hv, hM⟩ := ih (p + 1) f (d + 1) (st ++ [tabNd]) (by omega) (by omega) (by omega) (by simp; omega)
    obtain ⟨g0, g1, g2⟩ := aeq_get n (49 :: List.replicate n 125) p (by omega)
    change (tabsT n)[3 * p]? = _ at g0
    change (tabsT n)[3 * p + 1]? = _ at g1
    change (tabsT n)[3 * p + 2]? = _ at g2
    rw [valueF_table _ _ _ _ _ _ (byteAt_get _ _ _ g0)]
    have hcl := tabsT_c n q (by omega)
    have hnext : ∃ c, (tabsT n)[3 * p + 3]? = some c ∧ (c = 123 ∨ c = 49) := by
      by_cases hp : p + 1 < n
      · exact ⟨123, (aeq_get n (49 :: List.replicate n 125) (p + 1) hp).1, .inl rfl⟩
      · obtain rfl : p + 1 = n := by omega
        exact ⟨49, tabsT_b _, .inr rfl⟩
    obtain ⟨c, hc, hc2⟩ := hnext
    have hb3 : blanksAt (tabsT n) (3 * p + 2 + 1) = 3 * (p + 1) := by
      rw [blanksAt_self _ _ c hc (by rcases hc2 with rfl | rfl <;> decide)]; omega
    have hpair : pairS E (valueF E (tabsT n) f) (tabsT n) st.length (3 * p + 1) d (st ++ [tabNd]) = .ok (3 * n + 1 + q, putAt (st ++ [tabNd] ++ M) st.length [97] (3 * p + 1, 3 * p + 2) i) := by
      unfold pairS
      rw [key_one E _ _ g1 g2]
      simp only
      have hsub : subOf (st ++ [tabNd]) st.length [97] = .no := by
        unfold subOf
        rw [List.getElem?_append_right (Nat.le_refl _)]
        simp [tabNd]
      rw [way, hsub]
      simp only
      rw [blanksAt_self _ _ 61 g2 (by decide), if_pos (show byteAt _ _ = 61 from byteAt_get _ _ _ g2), hb3, hv]
      simp only [List.getLast?_singleton]
      rw [if_pos]
      unfold kind8
      rw [List.append_assoc, List.getElem?_append_right (Nat.le_refl _)]
      simp [tabNd, hM]
      omega
    have hput : putAt (st ++ [tabNd] ++ M) st.length [97] (3 * p + 1, 3 * p + 2) i = st ++ (putNd tabNd [97] (3 * p + 1, 3 * p + 2) i :: M) := by
      unfold putAt
      rw [List.append_assoc, List.singleton_append, modify_right]
    refine ⟨st.length, ({ putNd tabNd [97] (3 * p + 1, 3 * p + 2) i with sp := (((3 * p : Nat) : Int), ((3 * n + 1 + q + 1 : Nat) : Int)) } : Nd) :: M, ?_, by simp [hM]⟩
    unfold tableS
    rw [if_neg (by omega), if_pos (by simp [room]; omega)]
    simp only
    rw [blanksAt_self _ _ 97 g1 (by decide), if_neg (by rw [byteAt_get _ _ _ g1]; decide), tabF, hpair]
    simp only
    rw [blanksAt_self _ _ 125 hcl (by decide), if_pos (show byteAt _ _ = 125 from byteAt_get _ _ _ hcl)]
    simp only
    rw [hput, if_pos]
    · rw [modify_right]
      simp [Nat.add_assoc]
    · unfold kind8
      rw [List.getElem?_append_right (Nat.le_refl _)]
      simp [tabNd, putNd, hM]
      omega

theorem tables_deep (E : Env) (n : Nat) : ∀ (r p f d : Nat) (st : Nds), d + r = 257 → p + r < n → r < f → st.length + r ≤ 20000000 → valueF E (tabsT n) f d (3 * p) st = .bad 4 (3 * (p + r)) := by
  intro r
  induction r with
  | zero =>
    intro p f d st h1 h2 h3 h4
    obtain ⟨f, rfl⟩ : ∃ g, f = g + 1 := ⟨f - 1, by omega⟩
    have g0 : (tabsT n)[3 * p]? = _ := (aeq_get n (49 :: List.replicate n 125) p (by omega)).1
    rw [valueF_table _ _ _ _ _ _ (byteAt_get _ _ _ g0)]
    unfold tableS
    rw [if_pos (by omega)]
    rfl
  | succ r ih =>
    intro p f d st h1 h2 h3 h4
    obtain ⟨f, rfl⟩ : ∃ g, f = g + 1 := ⟨f - 1, by omega⟩
    have hv := ih (p + 1) f (d + 1) (st ++ [tabNd]) (by omega) (by omega) (by omega) (by simp; omega)
    obtain ⟨g0, g1, g2⟩ := aeq_get n (49 :: List.replicate n 125) p (by omega)
    change (tabsT n)[3 * p]? = _ at g0
    change (tabsT n)[3 * p + 1]? = _ at g1
    change (tabsT n)[3 * p + 2]? = _ at g2
    rw [valueF_table _ _ _ _ _ _ (byteAt_get _ _ _ g0)]
    have hc : (tabsT n)[3 * p + 3]? = some 123 := (aeq_get n (49 :: List.replicate n 125) (p + 1) (by omega)).1
    have hb3 : blanksAt (tabsT n) (3 * p + 2 + 1) = 3 * (p + 1) := by
      rw [blanksAt_self _ _ 123 hc (by decide)]; omega
    have hpair : pairS E (valueF E (tabsT n) f) (tabsT n) st.length (3 * p + 1) d (st ++ [tabNd]) = .bad 4 (3 * (p + 1 + r)) := by
      unfold pairS
      rw [key_one E _ _ g1 g2]
      simp only
      have hsub : subOf (st ++ [tabNd]) st.length [97] = .no := by
        unfold subOf
        rw [List.getElem?_append_right (Nat.le_refl _)]
        simp [tabNd]
      rw [way, hsub]
      simp only
      rw [blanksAt_self _ _ 61 g2 (by decide), if_pos (show byteAt _ _ = 61 from byteAt_get _ _ _ g2), hb3, hv]
    unfold tableS
    rw [if_neg (by omega), if_pos (by simp [room]; omega)]
    simp only
    rw [blanksAt_self _ _ 97 g1 (by decide), if_neg (by rw [byteAt_get _ _ _ g1]; decide), tabF, hpair]
    simp only
    rw [show p + 1 + r = p + (r + 1) from by omega]

/-! words of a dotted key -/
def wd : Nat → Bs → Bs
  | 0, l => l
  | k + 1, l => 97 :: 46 :: wd k l
def wordsT (m : Nat) : Bs := 123 :: wd m [97, 61, 49, 125]
theorem wd_length (m : Nat) (l : Bs) : (wd m l).length = 2 * m + l.length := by
  induction m with
  | zero => simp [wd]
  | succ m ih => simp [wd, ih]; omega
theorem wordsT_length (m : Nat) : (wordsT m).length = 2 * m + 5 := by unfold wordsT; rw [List.length_cons, wd_length]; simp
theorem wd_get (m : Nat) (l : Bs) : ∀ j, j < m → (wd m l)[2 * j]? = some 97 ∧ (wd m l)[2 * j + 1]? = some 46 := by
  induction m with
  | zero => intro j h; omega
  | succ m ih =>
    intro j h
    cases j with
    | zero => exact ⟨rfl, rfl⟩
    | succ j =>
      have := ih j (by omega)
      simp only [wd, show 2 * (j + 1) = 2 * j + 1 + 1 from by omega, List.getElem?_cons_succ]
      exact this
theorem wd_behind (m : Nat) (l : Bs) (j : Nat) : (wd m l)[2 * m + j]? = l[j]? := by
  induction m with
  | zero => simp [wd]
  | succ m ih =>
    rw [show 2 * (m + 1) + j = 2 * m + j + 1 + 1 from by omega]
    simpa [wd] using ih
theorem wordsT_end (m j : Nat) : (wordsT m)[2 * m + 1 + j]? = ([97, 61, 49, 125] : Bs)[j]? := by
  unfold wordsT
  rw [show 2 * m + 1 + j = 2 * m + j + 1 from by omega, List.getElem?_cons_succ, wd_behind]
theorem wordsT_a (m j : Nat) (h : j ≤ m) : (wordsT m)[1 + 2 * j]? = some 97 := by
  by_cases hj : j = m
  · subst hj
    have := wordsT_end j 0
    rw [show 1 + 2 * j = 2 * j + 1 + 0 from by omega]
    exact this
  · unfold wordsT
    rw [Nat.add_comm 1, List.getElem?_cons_succ]
    exact (wd_get m _ j (by omega)).1
theorem wordsT_dot (m j : Nat) (h : j < m) : (wordsT m)[1 + 2 * j + 1]? = some 46 := by
  unfold wordsT
  rw [List.getElem?_cons_succ, Nat.add_comm 1]
  exact (wd_get m _ j h).2

def kws : Nat → Nat → List KW
  | _, 0 => []
  | j, r + 1 => ([97], 1 + 2 * j, 1 + 2 * j + 1) :: kws (j + 1) r
theorem kws_last : ∀ (r j : Nat), (kws j (r + 1)).getLast? = some ([97], 1 + 2 * (j + r), 1 + 2 * (j + r) + 1) := by
  intro r
  induction r with
  | zero => intro j; rfl
  | succ r ih =>
    intro j
    have := ih (j + 1)
    rw [kws, List.getLast?_cons, this, show j + 1 + r = j + (r + 1) from by omega]
    rfl

theorem keyF_words (E : Env) (m : Nat) : ∀ (r j f : Nat) (acc : List KW), j + r = m → r < f → keyF E (wordsT m) f (1 + 2 * j) acc = .ok (acc ++ kws j (r + 1), 2 * m + 2) := by
  intro r
  induction r with
  | zero =>
    intro j f acc h1 h2
    obtain ⟨f, rfl⟩ : ∃ g, f = g + 1 := ⟨f - 1, by omega⟩
    obtain rfl : j = m := by omega
    have h61 : (wordsT j)[1 + 2 * j + 1]? = some 61 := by
      have := wordsT_end j 1
      rw [show 1 + 2 * j + 1 = 2 * j + 1 + 1 from by omega]
      exact this
    rw [keyF, word_a E _ _ 61 (wordsT_a j j (Nat.le_refl _)) h61 (.inl rfl)]
    simp only
    rw [blanksAt_self _ _ 61 h61 (by decide), if_neg (by rw [byteAt_get _ _ _ h61]; decide)]
    simp only [kws]
    rw [show 1 + 2 * j + 1 = 2 * j + 2 from by omega]
  | succ r ih =>
    intro j f acc h1 h2
    obtain ⟨f, rfl⟩ : ∃ g, f = g + 1 := ⟨f - 1, by omega⟩
    have h46 := wordsT_dot m j (by omega)
    have hn := wordsT_a m (j + 1) (by omega)
    rw [keyF, word_a E _ _ 46 (wordsT_a m j (by omega)) h46 (.inr rfl)]
    simp only
    rw [blanksAt_self _ _ 46 h46 (by decide), if_pos (show byteAt _ _ = 46 from byteAt_get _ _ _ h46), show 1 + 2 * j + 1 + 1 = 1 + 2 * (j + 1) from by omega,
      blanksAt_self _ _ 97 hn (by decide), ih (j + 1) f _ (by omega) (by omega), List.append_assoc]
    rfl

/-- Nodes of tables alone, each of one word at the most; one of them of none. -/
def OneW (st : Nds) (into : Nat) : Prop :=
  (∀ (i : Nat) nd, st[i]? = some nd → nd.kind = 8 ∧ nd.keys.length ≤ 1 ∧ nd.spots.length ≤ 1 ∧ nd.subs.length ≤ 1) ∧ ∃ nd, st[into]? = some nd ∧ nd.keys = [] ∧ nd.spots = [] ∧ nd.subs = []
theorem OneW.lt {st : Nds} {into : Nat} (h : OneW st into) : into < st.length := by
  obtain ⟨_, nd, hn, _⟩ := h
  exact (List.getElem?_eq_some_iff.1 hn).1
theorem OneW.none {st : Nds} {into : Nat} (h : OneW st into) (w : Bs) : subOf st into w = .no := by
  obtain ⟨_, nd, hn, hk, _⟩ := h
  unfold subOf
  rw [hn]
  simp only [hk]
  rfl
theorem OneW.k8 {st : Nds} {into : Nat} (h : OneW st into) (i : Nat) (hi : i < st.length) (hl : st.length ≤ 20000000) (M : Nds) (hM : M.length ≤ 1) : kind8 (st ++ M) i = true := by
  obtain ⟨nd, hn⟩ : ∃ nd, st[i]? = some nd := ⟨_, List.getElem?_eq_getElem hi⟩
  obtain ⟨a1, a2, a3, a4⟩ := h.1 i nd hn
  unfold kind8
  rw [List.getElem?_append_left hi, hn]
  simp [a1]
  omega
theorem OneW.put {st : Nds} {into : Nat} (h : OneW st into) (i : Nat) (nd : Nd) (w : Bs) (sp : Nat × Nat) (x : Nat) (hn : (putAt st into w sp x)[i]? = some nd) : nd.kind = 8 ∧ nd.keys.length ≤ 1 ∧ nd.spots.length ≤ 1 ∧ nd.subs.length ≤ 1 := by
  obtain ⟨h1, n0, h2, h3, h4, h5⟩ := h
  unfold putAt at hn
  rw [List.getElem?_modify] at hn
  by_cases e : into = i
  · subst e
    rw [h2] at hn
    simp at hn
    subst hn
    have := h1 _ _ h2
    simp [putNd, h3, h4, h5, this.1]
  · cases hs : st[i]? with
    | none => rw [hs] at hn; simp at hn
    | some n1 =>
      rw [hs] at hn
      simp [e] at hn
      subst hn
      exact h1 i _ hs
theorem OneW.more {st : Nds} {into : Nat} (h : OneW st into) (t : Nat) (w : Bs) (sp : Nat × Nat) : OneW (putAt (st ++ [dotNd t]) into w sp st.length) st.length := by
  have hlt := h.lt
  have hne : into ≠ st.length := by omega
  have hl : (putAt (st ++ [dotNd t]) into w sp st.length)[st.length]? = some (dotNd t) := by
    unfold putAt
    rw [List.getElem?_modify]
    simp [hne]
  refine ⟨fun i nd hn => ?_, dotNd t, hl, rfl, rfl, rfl⟩
  by_cases hi : i < st.length
  · have : (putAt (st ++ [dotNd t]) into w sp st.length)[i]? = (putAt st into w sp st.length)[i]? := by
      unfold putAt
      rw [List.getElem?_modify, List.getElem?_modify, List.getElem?_append_left hi]
    rw [this] at hn
    exact h.put i nd w sp _ hn
  · by_cases hi2 : i = st.length
    · subst hi2
      rw [hl] at hn
      cases hn
      exact ⟨rfl, by simp [dotNd], by simp [dotNd], by simp [dotNd]⟩
    · exfalso
      have := (List.getElem?_eq_some_iff.1 hn).1
      simp [putAt] at this
      omega

theorem way_step (table j r into d : Nat) (st : Nds) (h : OneW st into) : way table (kws j (r + 2)) into d st =
    if 256 < d + 1 then .bad 4 (1 + 2 * j) else if kind8 st into && room st then way table (kws (j + 1) (r + 1)) st.length (d + 1) (putAt (st ++ [dotNd (table + 1)]) into [97] (1 + 2 * j, 1 + 2 * j + 1) st.length) else .non := by
  show way table (([97], 1 + 2 * j, 1 + 2 * j + 1) :: ([97], 1 + 2 * (j + 1), 1 + 2 * (j + 1) + 1) :: kws (j + 1 + 1) r) into d st = _
  rw [way, h.none]
  rfl

theorem way_words (table : Nat) : ∀ (r j into d : Nat) (st : Nds), OneW st into → d + r ≤ 256 → st.length + r ≤ 20000000 →
    ∃ into' st', way table (kws j (r + 1)) into d st = .ok (into', d + r, st') ∧ OneW st' into' ∧ st'.length = st.length + r := by
  intro r
  induction r with
  | zero =>
    intro j into d st h _ _
    refine ⟨into, st, ?_, h, rfl⟩
    show way table (([97], 1 + 2 * j, 1 + 2 * j + 1) :: []) into d st = _
    rw [way, h.none]
    rfl
  | succ r ih =>
    intro j into d st h hd hl
    have hm := h.more (table + 1) [97] (1 + 2 * j, 1 + 2 * j + 1)
    obtain ⟨into', st', hw, ho, hlen⟩ := ih (j + 1) st.length (d + 1) _ hm (by omega) (by simp [putAt]; omega)
    refine ⟨into', st', ?_, ho, by rw [hlen]; simp [putAt]; omega⟩
    have k8 : kind8 st into = true := by
      have := h.k8 into h.lt (by omega) [] (by simp)
      simpa using this
    rw [way_step _ _ _ _ _ _ h, if_neg (by omega), k8, if_pos (by simp [room]; omega), hw, show d + 1 + r = d + (r + 1) from by omega]

theorem way_deep (table : Nat) : ∀ (r q j into d : Nat) (st : Nds), OneW st into → d + r = 256 → r < q → st.length + r ≤ 20000000 → way table (kws j (q + 1)) into d st = .bad 4 (1 + 2 * (j + r)) := by
  intro r
  induction r with
  | zero =>
    intro q j into d st h hd hq _
    obtain ⟨q, rfl⟩ : ∃ g, q = g + 1 := ⟨q - 1, by omega⟩
    rw [way_step _ _ _ _ _ _ h, if_pos (by omega)]
    rfl
  | succ r ih =>
    intro q j into d st h hd hq hl
    obtain ⟨q, rfl⟩ : ∃ g, q = g + 1 := ⟨q - 1, by omega⟩
    have hm := h.more (table + 1) [97] (1 + 2 * j, 1 + 2 * j + 1)
    have k8 : kind8 st into = true := by
      have := h.k8 into h.lt (by omega) [] (by simp)
      simpa using this
    rw [way_step _ _ _ _ _ _ h, if_neg (by omega), k8, if_pos (by simp [room]; omega), ih q (j + 1) _ (d + 1) _ hm (by omega) (by omega) (by simp [putAt]; omega),
      show j + 1 + r = j + (r + 1) from by omega]

theorem key_words (E : Env) (m : Nat) : keyS E (wordsT m) 1 = .ok (kws 0 (m + 1), 2 * m + 2) := by
  unfold keyS
  have := keyF_words E m m 0 ((wordsT m).length + 2) [] (by omega) (by rw [wordsT_length]; omega)
  simpa using this
theorem OneW.start : OneW [tabNd] 0 := by
  refine ⟨fun i nd hn => ?_, tabNd, rfl, rfl, rfl, rfl⟩
  cases i with
  | zero =>
    simp at hn
    subst hn
    exact ⟨rfl, by simp [tabNd], by simp [tabNd], by simp [tabNd]⟩
  | succ i => simp at hn

theorem words_read (E : Env) (hE : E.scal = scalS) (m f d : Nat) (hd : d + m ≤ 256) (hf : 2 ≤ f) : ∃ i M, valueF E (wordsT m) f d 0 [] = .ok (i, 2 * m + 5, M) ∧ M.length = m + 2 := by
  obtain ⟨f, rfl⟩ : ∃ g, f = g + 2 := ⟨f - 2, by omega⟩
  obtain ⟨into, st, hw, ho, hl⟩ := way_words 0 m 0 0 d [tabNd] OneW.start hd (by simp; omega)
  simp only [List.length_singleton] at hl
  have e0 : (wordsT m)[2 * m + 2]? = some 61 := wordsT_end m 1
  have e1 : (wordsT m)[2 * m + 3]? = some 49 := wordsT_end m 2
  have e2 : (wordsT m)[2 * m + 3 + 1]? = some 125 := wordsT_end m 3
  have e2' : (wordsT m)[2 * m + 4]? = some 125 := e2
  have hv := valueF_one E hE (wordsT m) f (d + m + 1) (2 * m + 3) st 125 e1 e2 (.inr rfl) (by omega)
  have ea : (wordsT m)[1]? = some 97 := wordsT_a m 0 (by omega)
  have hpair : pairS E (valueF E (wordsT m) (f + 1)) (wordsT m) 0 1 d [tabNd] = .ok (2 * m + 4, putAt (st ++ [leaf 4 [49] (2 * m + 3) (2 * m + 4)]) into [97] (1 + 2 * m, 1 + 2 * m + 1) st.length) := by
    unfold pairS
    rw [key_words]
    simp only
    rw [hw]
    simp only
    rw [blanksAt_self _ _ 61 e0 (by decide), if_pos (show byteAt _ _ = 61 from byteAt_get _ _ _ e0), blanksAt_self _ (2 * m + 2 + 1) 49 e1 (by decide), hv]
    simp only
    rw [kws_last]
    simp only
    rw [if_pos (ho.k8 into ho.lt (by omega) _ (by simp))]
    simp
  have hp0 : kind8 (putAt (st ++ [leaf 4 [49] (2 * m + 3) (2 * m + 4)]) into [97] (1 + 2 * m, 1 + 2 * m + 1) st.length) 0 = true := by
    have h0 : (putAt (st ++ [leaf 4 [49] (2 * m + 3) (2 * m + 4)]) into [97] (1 + 2 * m, 1 + 2 * m + 1) st.length)[0]? = (putAt st into [97] (1 + 2 * m, 1 + 2 * m + 1) st.length)[0]? := by
      unfold putAt
      rw [List.getElem?_modify, List.getElem?_modify, List.getElem?_append_left (by omega)]
    obtain ⟨nd, hn⟩ : ∃ nd, (putAt st into [97] (1 + 2 * m, 1 + 2 * m + 1) st.length)[0]? = some nd := ⟨_, List.getElem?_eq_getElem (by simp [putAt]; omega)⟩
    obtain ⟨a1, a2, a3, a4⟩ := ho.put 0 nd _ _ _ hn
    unfold kind8
    rw [h0, hn]
    simp [a1, putAt]
    omega
  rw [valueF_table _ _ _ _ _ _ (show byteAt (wordsT m) 0 = 123 from rfl)]
  unfold tableS
  rw [if_neg (by omega), if_pos (by simp [room])]
  simp only [Nat.zero_add, List.nil_append, List.length_nil]
  rw [blanksAt_self _ _ 97 ea (by decide), if_neg (by rw [byteAt_get _ _ _ ea]; decide), tabF, hpair]
  simp only
  rw [blanksAt_self _ _ 125 e2' (by decide), if_pos (show byteAt _ _ = 125 from byteAt_get _ _ _ e2')]
  simp only
  rw [if_pos hp0]
  exact ⟨_, _, rfl, by simp [putAt]; omega⟩

theorem words_deep (E : Env) (m f d r : Nat) (hd : d + r = 256) (hr : r < m) (hf : 1 ≤ f) : valueF E (wordsT m) f d 0 [] = .bad 4 (1 + 2 * r) := by
  obtain ⟨f, rfl⟩ : ∃ g, f = g + 1 := ⟨f - 1, by omega⟩
  have hw := way_deep 0 r m 0 0 d [tabNd] OneW.start hd hr (by simp; omega)
  have ea : (wordsT m)[1]? = some 97 := wordsT_a m 0 (by omega)
  have hpair : pairS E (valueF E (wordsT m) f) (wordsT m) 0 1 d [tabNd] = .bad 4 (1 + 2 * r) := by
    unfold pairS
    rw [key_words]
    simp only
    rw [hw]
    simp
  rw [valueF_table _ _ _ _ _ _ (show byteAt (wordsT m) 0 = 123 from rfl)]
  unfold tableS
  rw [if_neg (by omega), if_pos (by simp [room])]
  simp only [Nat.zero_add, List.nil_append, List.length_nil]
  rw [blanksAt_self _ _ 97 ea (by decide), if_neg (by rw [byteAt_get _ _ _ ea]; decide), tabF, hpair]
theorem words_top (E : Env) (m f : Nat) (hf : 1 ≤ f) : valueF E (wordsT m) f 257 0 [] = .bad 4 0 := by
  obtain ⟨f, rfl⟩ : ∃ g, f = g + 1 := ⟨f - 1, by omega⟩
  rw [valueF_table _ _ _ _ _ _ (show byteAt (wordsT m) 0 = 123 from rfl)]
  rfl

/-! read -/
theorem read_lists (E : Env) (hE : E.scal = scalS) (n k : Nat) (hn : 1 ≤ n) (h : n + k ≤ 256) : ∃ i M, readS E (listsT n) 0 k = .ok (i, 2 * n + 1, M) ∧ M.length = n + 1 := by
  obtain ⟨i, M, h1, h2⟩ := lists_read E hE n hn n 0 258 (min k 256 + 1) [] (by omega) (by omega) (by omega) (by simp; omega)
  exact ⟨i, M, by unfold readS; rw [h1, List.nil_append, show n + 1 + n = 2 * n + 1 from by omega], h2⟩
theorem read_tables (E : Env) (hE : E.scal = scalS) (n k : Nat) (hn : 1 ≤ n) (h : n + k ≤ 256) : ∃ i M, readS E (tabsT n) 0 k = .ok (i, 4 * n + 1, M) ∧ M.length = n + 1 := by
  obtain ⟨i, M, h1, h2⟩ := tables_read E hE n hn n 0 258 (min k 256 + 1) [] (by omega) (by omega) (by omega) (by simp; omega)
  exact ⟨i, M, by unfold readS; rw [Nat.mul_zero] at h1; rw [h1, List.nil_append, show 3 * n + 1 + n = 4 * n + 1 from by omega], h2⟩
theorem read_words (E : Env) (hE : E.scal = scalS) (m k : Nat) (h : m + 1 + k ≤ 256) : ∃ i M, readS E (wordsT m) 0 k = .ok (i, 2 * m + 5, M) ∧ M.length = m + 2 := by
  unfold readS
  exact words_read E hE m 258 (min k 256 + 1) (by omega) (by omega)
theorem deep_lists (E : Env) (n k : Nat) (hn : 1 ≤ n) (h : 256 < n + k) : readS E (listsT n) 0 k = .bad 4 (256 - k) := by
  unfold readS
  rw [lists_deep E n (256 - k) 0 258 (min k 256 + 1) [] (by omega) (by omega) (by omega), Nat.zero_add]
theorem deep_tables (E : Env) (n k : Nat) (hn : 1 ≤ n) (h : 256 < n + k) : readS E (tabsT n) 0 k = .bad 4 (3 * (256 - k)) := by
  unfold readS
  have := tables_deep E n (256 - k) 0 258 (min k 256 + 1) [] (by omega) (by omega) (by omega) (by simp; omega)
  rw [Nat.mul_zero, Nat.zero_add] at this
  exact this
theorem deep_words (E : Env) (m k : Nat) (h : 256 < m + 1 + k) : readS E (wordsT m) 0 k = .bad 4 (if 256 - k = 0 then 0 else 2 * (256 - k) - 1) := by
  unfold readS
  by_cases hk : 256 ≤ k
  · rw [if_pos (by omega), show min k 256 + 1 = 257 from by omega, words_top E m 258 (by omega)]
  · rw [if_neg (by omega), words_deep E m 258 (min k 256 + 1) (255 - k) (by omega) (by omega) (by omega)]
    congr 1
    omega

end Go.Proofs.YtkcnbhenhmmfgaaGreatDoor.Pl
