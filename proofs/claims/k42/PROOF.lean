import PyProof.Rows.All
import Wide.All
import OpenK.AllK
import Wide.FinOn
import HandS.TupSets
import HandS.SetFor
import HandS.Strs
import HandS.Dict
import HandS.Iter
import HandS.Call
import HandS.ExcCtx
import HandS.Walk
import HandS.ForMost
import HandS.Exc
import HandS.ExcOwn
import HandS.ExcIs
import HandS.WordsExc
import HandS.TryOnly
import HandS.TryMany
import HandS.Lambda
import HandS.EndTab
import HandS.CallSlots
import HandS.HotCalls
import HandS.Hot
import HandS.IsInst
import HandS.Conv
import HandS.Zip
import HandS.TupMul
import HandS.TupAny
import HandS.Wide
import HandS.SetKeys
import HandS.DictTup
import HandS.Deep
import HandS.Style
import HandS.Sort
import HandS.Flow
import HandS.Defaults
import HandS.HeadEnd
import HandS.Head0
import HandS.Head1
import HandS.Head2
import HandS.HeadHook1
import HandS.HeadHook2
import PySem.PyData
import PyProof.ListMulRoad
import PyProof.FactsAll.tuple_2
import HandS.HeadHook4
import HandS.HeadWalk
import PyProof.ZipIter
import HandS.Zip0
import KE.KDictZip
import HandS.Base
import HandS.List
import KE.DataMinMax
import HandS.NoneIn
import HandS.More
import PyProof.P3In
import PyProof.EnumMake
import PyProof.EnumFor
import PyProof.EnumStmt
import PySem.Challenge.RW_skillwants_k42_whole_goals_together
set_option Elab.async false
section
set_option linter.all false
set_option maxRecDepth 100000
set_option maxHeartbeats 4000000
set_option autoImplicit false
namespace DLS
open PySem L2 PySem.Spec PyProof.Rows
section
variable {P : Program} {w : World} {A : Around} {E : Value → Shared → Prop} {s : Shared}
/-! ### sets of tuples of texts: few of them, the table of eight slots -/
abbrev IsK (P : Program) (w : World) (h : Heap) (k : List Str) (a : Addr) : Prop := IsTupleKey (PySem.strKind P w) h k a
abbrev hk (P : Program) (w : World) (k : List Str) : Int := tupleKeyHash (PySem.strKind P w) k
abbrev pr (m : Nat) (z : Int) (c : Nat) : SetTable.Probe := nth m (runAt m (SetTable.bits z % (m + 1)) (SetTable.bits z)) c
theorem items_str {k : List Str} {vs : List Value} (h : ItemsAre (PySem.strKind P w) k vs) : ∀ v ∈ vs, ∃ x t, v = Value.str x t := by
  induction h with
  | nil => intro v hv; cases hv
  | cons h1 _ ih =>
    intro v hv
    rcases List.mem_cons.mp hv with rfl | hv
    · obtain ⟨t, e⟩ := Value.isStrOf_shape h1
      exact ⟨_, t, e⟩
    · exact ih v hv
/-- a tuple of texts is of no class statement -/
theorem noClass {k : List Str} {b : Addr} {Q : Bool → Shared → Prop} (ik : IsK P w s.heap k b) (q : Q false s) : wpAny (model P w) A (ofAClassStatement 8 (.ref b)) Q E s := by
  have ty := ik.typeIs
  obtain ⟨o, its, n, ho, _, hd, hi⟩ := ik
  unfold ofAClassStatement
  refine wpAny_bind (wpAny_typeOf ty ?_)
  have e : (("tuple" : String) == "tuple") = true := by decide
  simp only [e, if_true, Bool.not_true, Bool.false_eq_true, if_false]
  try refine wpAny_bind (wpAny_pure ?_)
  try simp only [Bool.not_true, Bool.false_eq_true, if_false]
  show wpAny _ _ (seqItems? (.ref b) >>= _) _ _ s
  refine wpAny_bind (wpAny_seqItems ho hd ?_)
  refine wpAny_bind ?_
  show wpAny _ _ (forIn its _ _) _ _ s
  rw [← Array.forIn_toList]
  refine wpAny_forIn_list _ (fun l r s' => r.1 = none ∧ s' = s ∧ ∀ v ∈ l, ∃ x t, v = Value.str x t) _ (fun v l r s' h => ?_) (fun r s' h => ?_) _ _ ⟨rfl, rfl, items_str hi⟩
  · obtain ⟨h1, rfl, h3⟩ := h
    obtain ⟨x, t, rfl⟩ := h3 v List.mem_cons_self
    have e2 : ∀ n, ofAClassStatement n (.str x t) = pure false := fun n => by cases n <;> rfl
    rw [e2]
    refine wpAny_bind (wpAny_pure ?_)
    simp only [Bool.false_eq_true, if_false]
    exact wpAny_pure ⟨rfl, rfl, fun u hu => h3 u (List.mem_cons_of_mem _ hu)⟩
  · obtain ⟨r1, r2⟩ := r
    obtain ⟨h1, rfl, _⟩ := h
    cases h1
    exact wpAny_pure q
/-- whether its hash is by value: some answer -/
theorem byVal {k : List Str} {b : Addr} {Q : Bool → Shared → Prop} (ik : IsK P w s.heap k b) (q : ∀ r, Q r s) : wpAny (model P w) A (hashByValue 8 (.ref b)) Q E s := by
  have ty := ik.typeIs
  obtain ⟨o, its, n, ho, _, hd, hi⟩ := ik
  unfold hashByValue
  refine wpAny_bind (wpAny_specialOf ty F.slot_tuple_hash.lookup ?_)
  show wpAny _ _ (seqItems? (.ref b) >>= _) _ _ s
  refine wpAny_bind (wpAny_seqItems ho hd ?_)
  refine wpAny_bind ?_
  show wpAny _ _ (forIn its _ _) _ _ s
  rw [← Array.forIn_toList]
  refine wpAny_forIn_list _ (fun l r s' => s' = s ∧ ∀ v ∈ l, ∃ x t, v = Value.str x t) _ (fun v l r s' h => ?_) (fun r s' h => ?_) _ _ ⟨rfl, items_str hi⟩
  · obtain ⟨rfl, h3⟩ := h
    obtain ⟨x, t, rfl⟩ := h3 v List.mem_cons_self
    have e2 : ∀ n, hashByValue n (.str x t) = pure false := fun n => by cases n <;> rfl
    rw [e2]
    refine wpAny_bind (wpAny_pure ?_)
    simp only [Bool.not_false, if_true]
    exact wpAny_pure (by
      show wpAny _ _ _ _ _ _
      exact wpAny_pure (q _))
  · obtain ⟨r1, r2⟩ := r
    obtain ⟨rfl, _⟩ := h
    cases r1 with
    | none => exact wpAny_pure (q _)
    | some r => exact wpAny_pure (q _)
/-- a search among such tuples shows nothing -/
theorem noSight {k : List Str} {b : Addr} {Q : Bool → Shared → Prop} (ik : IsK P w s.heap k b) {ys : List Value} (hy : ∀ y ∈ ys, ∃ k' c, y = Value.ref c ∧ IsK P w s.heap k' c) (q : Q false s) :
    wpAny (model P w) A (searchCouldBeSeen (.ref b) ys) Q E s := by
  unfold searchCouldBeSeen
  refine wpAny_bind ?_
  refine wpAny_forIn_list _ (fun l r s' => r.1 = none ∧ s' = s ∧ ∀ y ∈ l, ∃ k' c, y = Value.ref c ∧ IsK P w s.heap k' c) _ (fun v l r s' h => ?_) (fun r s' h => ?_) _ _ ⟨rfl, rfl, hy⟩
  · obtain ⟨h1, rfl, h3⟩ := h
    obtain ⟨k', c, rfl, ic⟩ := h3 v List.mem_cons_self
    have tl : ∀ y ∈ l, ∃ k' c, y = Value.ref c ∧ IsK P w s'.heap k' c := fun u hu => h3 u (List.mem_cons_of_mem _ hu)
    dsimp only
    by_cases hv : (b == c || (carriedByValue (.ref b) && carriedByValue (.ref c))) = true
    · exact wp_if_pos hv (wpAny_pure ⟨rfl, rfl, tl⟩)
    · refine wp_if_neg hv (wpAny_bind (wpAny_eqIsQuiet_tuple ik ?_))
      simp only [Bool.not_true, Bool.false_eq_true, if_false]
      refine wpAny_bind (wpAny_eqIsQuiet_tuple ic ?_)
      simp only [Bool.not_true, Bool.false_eq_true, if_false]
      refine wpAny_bind (noClass ik ?_)
      simp only [Bool.false_eq_true, if_false]
      refine wpAny_bind (noClass ic ?_)
      simp only [Bool.false_eq_true, if_false]
      exact wpAny_pure ⟨rfl, rfl, tl⟩
  · obtain ⟨r1, r2⟩ := r
    obtain ⟨h1, rfl, _⟩ := h
    cases h1
    exact wpAny_pure q
/-- the set at a holds the tuples L, told in the heap g -/
structure Few (P : Program) (w : World) (g h : Heap) (a : Addr) (L : List (Addr × List Str)) (es : Array (Int × Value)) (ep : Nat) (t : SetTable) : Prop where
  ob : ∃ o, h.get? a = some o ∧ o.ExactSet ∧ o.data = .set es ep t
  rows : es.toList = L.map fun p => (hk P w p.2, Value.ref p.1)
  tab : TabOk t (L.map fun p => hk P w p.2)
  nd : (L.map (·.2)).Nodup
  tup : ∀ p ∈ L, IsK P w g p.2 p.1
  m7 : t.mask = 7
  few : L.length ≤ 4
variable {g : Heap} {a : Addr} {L : List (Addr × List Str)} {es : Array (Int × Value)} {ep : Nat} {t : SetTable}
theorem isK_up {h h' : Heap} {k : List Str} {b : Addr} (x : IsK P w h k b) (u : ∀ c o, h.get? c = some o → h'.get? c = some o) : IsK P w h' k b := by
  obtain ⟨o, its, n, ho, r⟩ := x
  exact ⟨o, its, n, u b o ho, r⟩
theorem Few.size {hp : Heap} (R : Few P w g hp a L es ep t) : es.size = L.length := by
  have h := congrArg List.length R.rows
  rwa [Array.length_toList, List.length_map] at h
theorem Few.fits {hp : Heap} (R : Few P w g hp a L es ep t) : t.fits es.size = true := by
  have h1 := R.tab.sz
  rw [List.length_map] at h1
  have h2 := R.size
  have h3 := R.few
  have h4 := R.m7
  unfold SetTable.fits SetTable.fill
  rw [R.tab.dm, Bool.and_eq_true, beq_iff_eq, decide_eq_true_eq]
  show t.place.size = es.size ∧ t.place.size + 0 ≤ t.mask
  omega
theorem Few.at {hp : Heap} (R : Few P w g hp a L es ep t) {i : Nat} {p : Addr × List Str} (e : L[i]? = some p) : es[i]? = some (hk P w p.2, Value.ref p.1) := by
  rw [← Array.getElem?_toList, R.rows, List.getElem?_map, e] <;> rfl
theorem pr_dummy (m : Nat) (z : Int) (c : Nat) : (pr m z c).dummy = none := by
  have go : ∀ (n : Nat) (p : SetTable.Probe), p.dummy = none → (nth m p n).dummy = none := by
    intro n
    induction n with
    | zero => exact fun p h => h
    | succ n ih =>
      intro p h
      refine ih (adv m p) ?_
      unfold adv
      split <;> exact h
  exact go c _ rfl
/-- what the search gives at the step c -/
theorem Few.step (R : Few P w g s.heap a L es ep t) {z : Int} {K : Nat} (hf : K < 10 * SetTable.turns t.mask) (hK : way t.mask z K ∉ t.place.toList) (hb : ∀ c, c < K → way t.mask z c ∈ t.place.toList) {c : Nat} (hc : c ≤ K) :
    (∃ (q i : Nat) (p : Addr × List Str), c ≤ q ∧ q < K ∧ L[i]? = some p ∧ t.place.toList[i]? = some (way t.mask z q) ∧ (∀ (c' i' : Nat) (p' : Addr × List Str), c ≤ c' → c' < q → L[i']? = some p' → t.place.toList[i']? = some (way t.mask z c') → hk P w p'.2 ≠ z) ∧
      t.probe (fun i => (es[i]?.map (·.1)).getD 0) z (pr t.mask z c) = some (.candidate (way t.mask z q) i (pr t.mask z (q + 1)))) ∨
    ((∀ (c' i' : Nat) (p' : Addr × List Str), c ≤ c' → c' < K → L[i']? = some p' → t.place.toList[i']? = some (way t.mask z c') → hk P w p'.2 ≠ z) ∧ t.probe (fun i => (es[i]?.map (·.1)).getD 0) z (pr t.mask z c) = some (.empty (way t.mask z K) none)) := by
  have sh : ∀ q, nth t.mask (pr t.mask z c) q = pr t.mask z (c + q) := fun q => (nth_add t.mask c _ q).symm
  have e1 : ∀ q, (nth t.mask (pr t.mask z c) q).j = way t.mask z (c + q) := fun q => congrArg SetTable.Probe.j (sh q)
  have hashed : ∀ (i : Nat) (p : Addr × List Str), L[i]? = some p → (fun i => (es[i]?.map (·.1)).getD 0) i = hk P w p.2 := fun i p hp => by
    show (es[i]?.map (·.1)).getD 0 = _
    rw [R.at hp] <;> rfl
  have back : ∀ {c' : Nat}, c ≤ c' → (nth t.mask (pr t.mask z c) (c' - c)).j = way t.mask z c' := fun {c'} h => by rw [e1, show c + (c' - c) = c' by omega]
  rcases go_spec t R.tab.ris R.tab.dm (fun i => (es[i]?.map (·.1)).getD 0) z (10 * SetTable.turns t.mask) (K - c) _ (pr_dummy t.mask z c) (by omega)
      (fun q hq => by rw [e1]; exact hb (c + q) (by omega)) (by rw [back hc]; exact hK) with ⟨q, i, hq, hi, _, hno, hp⟩ | ⟨hno, hp⟩
  · rw [e1] at hi
    have hil : i < L.length := by
      have h1 : i < t.place.toList.length := (List.getElem?_eq_some_iff.mp hi).1
      have h2 := R.tab.sz
      rw [List.length_map] at h2
      rw [Array.length_toList] at h1
      omega
    refine .inl ⟨c + q, i, L[i], by omega, by omega, List.getElem?_eq_getElem hil, hi, fun c' i' p' h1 h2 h3 h4 h5 => ?_, ?_⟩
    · exact hno (c' - c) i' (by omega) (by rw [back h1]; exact h4) ((hashed i' p' h3).trans h5)
    · rw [e1, sh] at hp
      exact hp
  · refine .inr ⟨fun c' i' p' h1 h2 h3 h4 h5 => ?_, ?_⟩
    · exact hno (c' - c) i' (by omega) (by rw [back h1]; exact h4) ((hashed i' p' h3).trans h5)
    · rw [back hc] at hp
      exact hp
/-- the search, from the step c on; the place of the sought tuple is still ahead -/
theorem srch (R : Few P w g s.heap a L es ep t) (kp : ∀ b o, g.get? b = some o → s.heap.get? b = some o) {x : Addr} {k : List Str} (ix : IsK P w g k x) (hu : A.units < cLine) {K : Nat} (hf : K < 10 * SetTable.turns t.mask)
    (hK : way t.mask (hk P w k) K ∉ t.place.toList) (hb : ∀ c, c < K → way t.mask (hk P w k) c ∈ t.place.toList) {Q : SetFound → Shared → Prop} (yes : k ∈ L.map (·.2) → Q (.there none) s) (no : k ∉ L.map (·.2) → Q (.free (way t.mask (hk P w k) K) false) s) :
    ∀ (n c : Nat) (st : Option SetTable.Probe), st.getD (t.probeStart (hk P w k)) = pr t.mask (hk P w k) c → c ≤ K → K - c < n → (∀ (i : Nat) p, L[i]? = some p → p.2 = k → ∃ c', c ≤ c' ∧ c' < K ∧ t.place.toList[i]? = some (way t.mask (hk P w k) c')) →
      wpAny (model P w) A (setSearchFrom a (.ref x) (hk P w k) true n st) Q E s
  | 0, c, st, _, _, h, _ => absurd h (Nat.not_lt_zero _)
  | n + 1, c, st, hst, hc, hn, hre => by
    obtain ⟨o, ho, hex, hd⟩ := R.ob
    have gw : ¬ t.gaveWay = true := by
      unfold SetTable.gaveWay
      rw [mask_odd R.tab.mok]
      decide
    rw [setSearchFrom_succ]
    refine wpAny_bind (wpAny_setState_of ho hd R.fits ?_)
    dsimp only
    refine wp_if_neg gw ?_
    try refine wpAny_bind (wpAny_pure ?_)
    rw [hst]
    rcases R.step hf hK hb hc with ⟨q, i, p, q1, q2, hp, hi, hno, e⟩ | ⟨hno, e⟩
    · rw [e]
      dsimp only
      have pm : p ∈ L := List.mem_of_getElem? hp
      have ip := isK_up (R.tup p pm) kp
      have ix' := isK_up ix kp
      have tail : wpAny (model P w) A (searchRest a (.ref x) (hk P w k) true n es t (way t.mask (hk P w k) q) i (pr t.mask (hk P w k) (q + 1))) Q E s := by
        unfold searchRest
        rw [R.at hp]
        dsimp only
        refine wpAny_bind (wpAny_holding (wpAny_eqBool_tuple hu ip ix' ?_))
        refine wpAny_bind (wpAny_setState_of ho hd R.fits ?_)
        dsimp only
        by_cases ek : p.2 = k
        · exact wp_if_pos (by simp [ek]) (wpAny_pure (yes (List.mem_map.mpr ⟨p, pm, ek⟩)))
        · refine wp_if_neg (by simp [ek]) ?_
          try refine wpAny_bind (wpAny_pure ?_)
          rw [sameMem]
          dsimp only
          have hsl : t.slot (way t.mask (hk P w k) q) = .live i := slot_live R.tab.ris hi
          simp only [if_true, hsl, R.at hp]
          refine wpAny_bind (wpAny_isSame_ref_self (wpAny_bind (wpAny_pure ?_)))
          simp only [if_true]
          refine wp_if_neg (by simp [ek]) (srch R kp ix hu hf hK hb yes no n (q + 1) _ rfl (by omega) (by omega) fun i0 p0 h0 k0 => ?_)
          obtain ⟨c', a1, a2, a3⟩ := hre i0 p0 h0 k0
          refine ⟨c', ?_, a2, a3⟩
          rcases Nat.lt_trichotomy c' q with y | y | y
          · exact absurd (congrArg (hk P w) k0) (hno c' i0 p0 a1 y h0 a3)
          · subst y
            have s0 := slot_live R.tab.ris a3
            rw [hsl] at s0
            injection s0 with s0
            rw [← s0, hp] at h0
            cases h0
            exact absurd k0 ek
          · exact y
      by_cases hl : t.led = true
      · refine wp_if_neg (by simp [hl]) ?_
        try refine wpAny_bind (wpAny_pure ?_)
        exact tail
      · refine wp_if_pos (by simp [hl]) (wpAny_bind (noSight ix' (fun y hy => ?_) ?_))
        · obtain ⟨e0, he, ee⟩ := List.mem_map.mp hy
          have h1 : e0 ∈ es ∧ e0.1 = hk P w k := by simpa using he
          have h2 : e0 ∈ es.toList := by simpa using h1.1
          rw [R.rows] at h2
          obtain ⟨p2, m2, e2⟩ := List.mem_map.mp h2
          exact ⟨p2.2, p2.1, by rw [← ee, ← e2], isK_up (R.tup p2 m2) kp⟩
        · refine wp_if_neg (by decide) ?_
          try refine wpAny_bind (wpAny_pure ?_)
          exact tail
    · rw [e]
      dsimp only
      refine wpAny_pure (no fun hm => ?_)
      obtain ⟨p0, h0, k0⟩ := List.mem_map.mp hm
      obtain ⟨i0, hi0, e0⟩ := List.getElem_of_mem h0
      have h00 : L[i0]? = some p0 := by rw [List.getElem?_eq_getElem hi0, e0]
      obtain ⟨c', a1, a2, a3⟩ := hre i0 p0 h00 k0
      exact hno c' i0 p0 a1 a2 h00 a3 (congrArg (hk P w) k0)
theorem found (R : Few P w g s.heap a L es ep t) (kp : ∀ b o, g.get? b = some o → s.heap.get? b = some o) {x : Addr} {k : List Str} (ix : IsK P w g k x) (hu : A.units < cLine) {Q : SetFound → Shared → Prop} (yes : k ∈ L.map (·.2) → Q (.there none) s)
    (no : ∀ K, k ∉ L.map (·.2) → way t.mask (hk P w k) K ∉ t.place.toList → (∀ c, c < K → way t.mask (hk P w k) c ∈ t.place.toList) → Q (.free (way t.mask (hk P w k) K) false) s) : wpAny (model P w) A (setSearch a (.ref x) (hk P w k) true) Q E s := by
  have hfew := R.few
  have h7 := R.m7
  obtain ⟨K, hf, hK, hb⟩ := R.tab.first (by rw [List.length_map]; omega) (hk P w k)
  have big : K < 100000 := by
    have : 10 * SetTable.turns t.mask ≤ 1420 := by
      unfold SetTable.turns
      omega
    omega
  unfold setSearch
  refine srch R kp ix hu hf hK hb yes (fun hn => no K hn hK hb) 100000 0 none rfl (Nat.zero_le _) (by omega) fun i p hp h => ?_
  have hi : (L.map fun p => hk P w p.2)[i]? = some (hk P w k) := by rw [List.getElem?_map, hp, ← h] <;> rfl
  have hil : i < t.place.toList.length := by
    have h1 : i < L.length := (List.getElem?_eq_some_iff.mp hp).1
    have h2 := R.tab.sz
    rw [List.length_map] at h2
    rw [Array.length_toList]
    omega
  have hj := List.getElem?_eq_getElem hil
  obtain ⟨c, hc, e⟩ := R.tab.before hK hi hj
  exact ⟨c, Nat.zero_le _, hc, by rw [hj, e]⟩
theorem up_set {h h' : Heap} {a : Addr} (n : g.get? a = none) (k : ∀ b o, g.get? b = some o → h.get? b = some o) (sb : Heap.SameBut a h h') : ∀ b o, g.get? b = some o → h'.get? b = some o := fun b o e =>
  (sb.2 b (fun z => by rw [z, n] at e; cases e)).trans (k b o e)
/-- one more -/
theorem addK (R : Few P w g s.heap a L es ep t) (kp : ∀ b o, g.get? b = some o → s.heap.get? b = some o) {x : Addr} {k : List Str} (ix : IsK P w g k x) (hu : A.units < cLine) (hl : L.length ≤ 3) {Q : Bool → Shared → Prop}
    (q : ∀ b h' L' es' ep' t', Heap.SameBut a s.heap h' → Few P w g h' a L' es' ep' t' → (∀ z, z ∈ L'.map (·.2) ↔ z = k ∨ z ∈ L.map (·.2)) → L'.length ≤ L.length + 1 → Q b { s with heap := h' }) :
    wpAny (model P w) A (setAddHashed a (.ref x) (hk P w k)) Q E s := by
  obtain ⟨o, ho, hex, hd⟩ := R.ob
  have hsl := R.size
  unfold setAddHashed
  refine wpAny_holding ?_
  rw [show (100000 : Nat) = 99999 + 1 from rfl, setAddHashedIn_succ]
  refine wpAny_bind (wpAny_setState_of ho hd R.fits ?_)
  dsimp only
  refine wp_if_neg (by simp [byScan, Value.scannable]) ?_
  try refine wpAny_bind (wpAny_pure ?_)
  refine wpAny_bind (found R kp ix hu (fun hm => ?_) fun K hm hK hb => ?_)
  · refine wpAny_pure (q false s.heap L es ep t (Heap.SameBut.refl a s.heap) R (fun z => ⟨.inr, fun h => ?_⟩) (Nat.le_succ _))
    rcases h with rfl | h
    · exact hm
    · exact h
  · dsimp only
    refine wpAny_bind (wpAny_setState_of ho hd R.fits ?_)
    dsimp only
    obtain ⟨u1, u2, u3, u4, u5, u6, u7, u8, u9⟩ := R.tab.put hK hb
    generalize e0 : t.put (way t.mask (hk P w k) K) = tp at u1 u3 u4 u5 u6 u7 u8 u9 ⊢
    obtain ⟨t1, j⟩ := tp
    dsimp only at u1 u3 u4 u5 u6 u7 u8 u9 ⊢
    subst u1
    have rest : ∀ r : Bool, wpAny (model P w) A (do
        let t' := if r = true then t1 else { t1 with plain := false }
        storeSet a (SetTable.insertAt es (SetTable.below t.place (way t.mask (hk P w k) K)) (hk P w k, .ref x)) t'
        if (!false && t'.tooFull) = true then setRelay a (SetTable.grown (es.size + 1))
        return true) Q E s := fun r => by
      have ins : (SetTable.insertAt es (SetTable.below t.place (way t.mask (hk P w k) K)) (hk P w k, Value.ref x)).toList = (L.take (SetTable.below t.place (way t.mask (hk P w k) K)) ++ (x, k) :: L.drop (SetTable.below t.place (way t.mask (hk P w k) K))).map fun p => (hk P w p.2, Value.ref p.1) := by
        rw [SetTable.toList_insertAt, R.rows, List.map_append, List.map_cons, List.map_take, List.map_drop]
      generalize e1 : SetTable.below t.place (way t.mask (hk P w k) K) = j at u2 u3 ins ⊢
      have pm := put_perm L j (x, k)
      have len1 : (L.take j ++ (x, k) :: L.drop j).length = L.length + 1 := pm.length_eq
      have hh : (L.take j ++ (x, k) :: L.drop j).map (fun p => hk P w p.2) = (L.map fun p => hk P w p.2).take j ++ hk P w k :: (L.map fun p => hk P w p.2).drop j := by rw [List.map_append, List.map_cons, List.map_take, List.map_drop]
      rw [← hh] at u3
      have nd1 : ((L.take j ++ (x, k) :: L.drop j).map (·.2)).Nodup := (pm.map (·.2)).nodup_iff.mpr (by rw [List.map_cons]; exact List.nodup_cons.mpr ⟨hm, R.nd⟩)
      generalize SetTable.insertAt es j (hk P w k, Value.ref x) = es1 at ins ⊢
      generalize L.take j ++ (x, k) :: L.drop j = L1 at pm len1 u3 nd1 ins
      have hes : es1.size = L.length + 1 := by
        have h := congrArg List.length ins
        rwa [Array.length_toList, List.length_map, len1] at h
      generalize e2 : (if r = true then t1 else { t1 with plain := false }) = t2
      have T2 : TabOk t2 (L1.map fun p => hk P w p.2) ∧ t2.mask = 7 ∧ t2.tooFull = false := by
        have m1 : t1.mask = 7 := u4.trans R.m7
        have f1 : t1.tooFull = false := by
          unfold SetTable.tooFull
          rw [decide_eq_false_iff_not, u9, List.length_map, m1]
          omega
        subst e2
        split
        · exact ⟨u3, m1, f1⟩
        · exact ⟨⟨u3.ris, u3.dm, u3.sz, u3.mok, u3.bd, u3.reach⟩, m1, f1⟩
      refine wpAny_bind (wpAny_storeSet_of ho hd ?_ (by rw [hes, sizeLine_eq]; omega))
      have sb : Heap.SameBut a s.heap (s.heap.update a (Obj.putSet es1 t2)) := Heap.SameBut.update ..
      have ho1 := store_at (es' := es1) (t' := t2) ho hd
      generalize s.heap.update a (Obj.putSet es1 t2) = h1 at sb ho1 ⊢
      first
        | refine wp_if_neg (by simp [T2.2.2]) ?_
        | (refine wpAny_bind ?_; refine wp_if_neg (by simp [T2.2.2]) ?_; refine wpAny_pure ?_)
      refine wpAny_pure (q true h1 L1 es1 (ep + 1) t2 sb ⟨⟨_, ho1, ⟨hex.1, hex.2.1, hex.2.2⟩, rfl⟩, ins, T2.1, nd1, fun p hp => ?_, T2.2.1, by omega⟩ (fun z => ?_) (by omega))
      · rcases List.mem_cons.mp (pm.mem_iff.mp hp) with e | hp
        · rw [e]; exact ix
        · exact R.tup p hp
      · rw [(pm.map (·.2)).mem_iff, List.map_cons, List.mem_cons]
    have ix' := isK_up ix kp
    by_cases hp : t1.plain = true
    · first
        | (refine wpAny_bind ?_; refine wp_if_pos hp ?_; exact byVal ix' rest)
        | exact wp_if_pos hp (wpAny_bind (byVal ix' rest))
    · first
        | (refine wpAny_bind ?_; refine wp_if_neg hp ?_; exact wpAny_pure (rest true))
        | exact wp_if_neg hp (wpAny_bind (wpAny_pure (rest true)))
end
end DLS
end
section
set_option linter.all false
set_option maxRecDepth 100000
set_option maxHeartbeats 4000000
set_option autoImplicit false
namespace DLS
open PySem L2 PySem.Spec PyProof.Rows
/-- a new set's record -/
abbrev newSet (w : World) : Obj := { cls := .type "set", dict := none, data := .set #[] 0 (.fresh 0 0 (!w.params.followText "set-order")) }
/-- a kind of things that a set gathers; g: the heap in which they are told -/
structure Gath (P : Program) (w : World) (g : Heap) (κ : Type) where
  Is : κ → Value → Prop
  St : Heap → Addr → List κ → Prop
  cap : Nat
  keep : ∀ (h h' : Heap) (a : Addr) (L : List κ), St h a L → (∀ o, h.get? a = some o → h'.get? a = some o) → St h' a L
  fresh : ∀ (h : Heap) (a : Addr), g.get? a = none → h.get? a = some (newSet w) → St h a []
  out : ∀ (h : Heap) (a : Addr) (L : List κ), St h a L → L.Nodup ∧ ∃ o es ep t, h.get? a = some o ∧ o.ExactSet ∧ o.data = .set es ep t ∧ t.fits es.size = true ∧ es.size = L.length
  add : ∀ (A : Around) (E : Value → Shared → Prop) (s : Shared) (a : Addr) (L : List κ) (k : κ) (x : Value) (Q : Bool → Shared → Prop), A.units < cLine → (∀ b o, g.get? b = some o → s.heap.get? b = some o) → Is k x → St s.heap a L → L.length + 1 ≤ cap →
    (∀ b h' tk L', s.toks ≤ tk → Heap.SameBut a s.heap h' → St h' a L' → (∀ z, z ∈ L' ↔ z = k ∨ z ∈ L) → L'.length ≤ L.length + 1 → Q b { s with heap := h', toks := tk }) → wpAny (model P w) A (setAdd a x) Q E s
section
variable {P : Program} {w : World} {A : Around} {E : Value → Shared → Prop} {s : Shared} {g : Heap} {κ : Type}
def gStr (P : Program) (w : World) (g : Heap) : Gath P w g Str where
  Is k v := (PySem.strKind P w).is k v = true
  St h a L := L.Nodup ∧ h.SetOf (PySem.strKind P w) a (fun k => decide (k ∈ L)) L.length
  cap := 1000
  keep h h' a L S k := ⟨S.1, by obtain ⟨o, es, ep, t, ho, r⟩ := S.2; exact ⟨o, es, ep, t, k _ ho, r⟩⟩
  fresh h a _ e := ⟨List.nodup_nil, SetOf_congr ((setObjOf_fresh (knd := PySem.strKind P w) _).setOf e (by unfold scanBound; omega)) (fun _ => by simp) rfl⟩
  out h a L S := ⟨S.1, by obtain ⟨o, es, ep, t, ho, hex, hd, _, _, _, hf, hn⟩ := S.2; exact ⟨o, es, ep, t, ho, hex, hd, hf, hn⟩⟩
  add A E s a L k x Q hu kp ik S hl q := by
    unfold setAdd
    refine wpAny_holding (wpAny_bind ((PySem.strKind P w).pyHash (k := k) ik ?_))
    have hsc : x.scannable = true := by obtain ⟨t, rfl⟩ := Value.isStrOf_shape ik; rfl
    refine wpAny_setAddHashed_of (knd := PySem.strKind P w) (s := { s with toks := s.toks + 1 }) ik hsc S.2 (by unfold scanBound; omega) fun h' sb S2 => ?_
    by_cases hm : k ∈ L
    · refine q _ h' (s.toks + 1) L (Nat.le_succ _) sb ⟨S.1, SetOf_congr S2 (fun k' => ?_) (by simp [hm])⟩ (fun z => ⟨.inr, fun h => ?_⟩) (Nat.le_succ _)
      · by_cases e : k' = k
        · subst e; simp [hm]
        · simp [e]
      · rcases h with rfl | h
        · exact hm
        · exact h
    · refine q _ h' (s.toks + 1) (k :: L) (Nat.le_succ _) sb ⟨List.nodup_cons.mpr ⟨hm, S.1⟩, SetOf_congr S2 (fun k' => ?_) (by simp [hm])⟩ (fun z => List.mem_cons) (Nat.le_refl _)
      simp [Bool.or_comm]
def gTup (P : Program) (w : World) (g : Heap) : Gath P w g (List Str) where
  Is k v := ∃ x, v = .ref x ∧ IsK P w g k x
  St h a L := g.get? a = none ∧ ∃ L0 es ep t, Few P w g h a L0 es ep t ∧ L = L0.map (·.2)
  cap := 4
  keep h h' a L S k := by
    obtain ⟨n, L0, es, ep, t, R, e⟩ := S
    obtain ⟨o, ho, r⟩ := R.ob
    exact ⟨n, L0, es, ep, t, ⟨⟨o, k o ho, r⟩, R.rows, R.tab, R.nd, R.tup, R.m7, R.few⟩, e⟩
  fresh h a n e := ⟨n, [], #[], 0, _, ⟨⟨_, e, ⟨rfl, rfl, rfl⟩, rfl⟩, rfl, ⟨List.Pairwise.nil, rfl, rfl, .inl rfl, fun x hx => (by cases hx), fun i h j hi => (by simp at hi)⟩, List.nodup_nil, fun p hp => (by cases hp), rfl, Nat.zero_le _⟩, rfl⟩
  out h a L S := by
    obtain ⟨_, L0, es, ep, t, R, rfl⟩ := S
    obtain ⟨o, ho, hex, hd⟩ := R.ob
    exact ⟨R.nd, o, es, ep, t, ho, hex, hd, R.fits, by rw [List.length_map]; exact R.size⟩
  add A E s a L k x Q hu kp ik S hl q := by
    obtain ⟨n, L0, es, ep, t, R, rfl⟩ := S
    obtain ⟨b, rfl, ib⟩ := ik
    rw [List.length_map] at hl
    unfold setAdd
    refine wpAny_holding (wpAny_bind (wpAny_pyHash_tuple hu (isK_up ib kp) ?_))
    refine addK (s := { s with toks := s.toks + (k.length + 1) }) R kp ib hu (by omega) fun r h' L' es' ep' t' sb R' m len => q r h' _ (L'.map (·.2)) (Nat.le_add_right _ _) sb ⟨n, L', es', ep', t', R', rfl⟩ m (by rw [List.length_map, List.length_map]; exact len)
/-- set.update's loop over a walk that gives the keys ks -/
theorem loopG (Γ : Gath P w g κ) {I : Addr} {fp wr : List Addr} {G : Array GenState → Array GenState → Prop} {n : Nat} {Pv : Nat → Value → Prop} {St : Nat → Shared → Prop} {R : Result → Shared → Prop} (W : WalksS P w A.in1 I fp wr G n Pv St) (S : Addr) (nS : S ∉ fp)
    (ks : List κ) (en : n = ks.length) (hc : ks.length ≤ Γ.cap) (hv : ∀ i v, Pv i v → ∃ k, ks[i]? = some k ∧ Γ.Is k v) (wn : ∀ b ∈ wr, g.get? b = none) (hS : g.get? S = none) (hu : A.in1.units < cLine) :
    ∀ (m i : Nat) (s : Shared) (L : List κ), n - i = m → i ≤ n → St i s → (∀ b o, g.get? b = some o → s.heap.get? b = some o) → Γ.St s.heap S L → (∀ z, z ∈ L ↔ z ∈ ks.take i) → L.length ≤ i →
      (∀ s' L', Moved (S :: wr) G s s' → Γ.St s'.heap S L' → (∀ z, z ∈ L' ↔ z ∈ ks) → R (.ok (.ret .none)) s') → codeAny (model P w) A (.builtin "set.update.loop" ⟨[.ref S, .ref I], []⟩) R s := by
  have nw : S ∉ wr := fun h => nS (W.sub _ h)
  have wider : ∀ b ∈ wr, b ∈ S :: wr := fun b h => List.mem_cons_of_mem _ h
  have up : ∀ {s s' : Shared}, Moved wr G s s' → (∀ b o, g.get? b = some o → s.heap.get? b = some o) → ∀ b o, g.get? b = some o → s'.heap.get? b = some o := fun mv k b o e =>
    mv.heap b o (fun h => by rw [wn b h] at e; cases e) (k b o e)
  intro m
  induction m with
  | zero =>
    intro i s L em hi st kp gs mem _ fin
    have e : i = n := by omega
    subst e
    refine codeAny_builtin F.entry_set_update_loop ?_
    rw [Around.under_plainId F.plain_set_update_loop _]
    show wpAny _ A.in1 (pyNext (.ref I) >>= _) _ _ s
    refine wpAny_bind (W.done s _ _ st fun s' mv => ?_)
    show wpAny _ A.in1 (ret Value.none) _ _ s'
    exact wpAny_pure (fin s' L (mv.mono wider) (Γ.keep _ _ S L gs fun o e => mv.heap S o nw e) fun z => by rw [mem z, en, List.take_length])
  | succ m ih =>
    intro i s L em hi st kp gs mem ll fin
    have lt : i < n := by omega
    refine codeAny_builtin F.entry_set_update_loop ?_
    rw [Around.under_plainId F.plain_set_update_loop _]
    show wpAny _ A.in1 (pyNext (.ref I) >>= _) _ _ s
    refine wpAny_bind (W.item i s _ _ lt st fun v s' hp st' mv => ?_)
    obtain ⟨k, ek, ik⟩ := hv i v hp
    have kp' := up mv kp
    show wpAny _ A.in1 (holding [v] (setAdd S v) >>= _) _ _ s'
    refine wpAny_bind (wpAny_holding ?_)
    refine Γ.add _ _ s' S L k v _ hu kp' ik (Γ.keep _ _ S L gs fun o e => mv.heap S o nw e) (by omega) fun b h' tk L' htk sb gs' mem' ll' => ?_
    have et : ks.take (i + 1) = ks.take i ++ [k] := by rw [List.take_succ, ek]; rfl
    refine wpAny_pure ⟨plainId_quiet F.plain_set_update_loop _, ih (i + 1) _ L' (by omega) lt (W.frame _ s' _ _ st' htk fun b hb o e => ?_) (up_set hS kp' sb) gs' (fun z => ?_) (by omega) fun s2 L2 mv2 gs2 mem2 => ?_⟩
    · rw [sb.2 b (fun z : b = S => nS (by rw [← z]; exact hb))]
      exact e
    · rw [mem' z, mem z, et, List.mem_append, List.mem_singleton, or_comm]
    · refine fin s2 L2 (Moved.trans W.gtrans ((mv.mono wider).then_heap htk fun b o hb e => ?_) mv2) gs2 mem2
      rw [sb.2 b (fun z : b = S => hb (by rw [z]; exact List.mem_cons_self))]
      exact e
end
end DLS
end
section
set_option linter.all false
set_option maxRecDepth 100000
set_option maxHeartbeats 4000000
set_option autoImplicit false
namespace DLS
open PySem L2 PySem.Spec PyProof.Rows
section
variable {P : Program} {w : World} {A : Around} {E : Value → Shared → Prop} {s : Shared} {κ : Type}
set_option maxRecDepth 100000 in
set_option maxHeartbeats 3200000 in
/-- set(xs), xs a list of keys -/
theorem call_list (Γ : Gath P w s.heap κ) {l : Addr} {items : Array Value} (ks : List κ) {Q : Value → Shared → Prop} (hh : A.handled = none) (hl : s.heap.IsList l items) (en : items.size = ks.length) (hi : ∀ (i : Nat) (v : Value), items[i]? = some v → ∃ k, ks[i]? = some k ∧ Γ.Is k v)
    (hc : ks.length ≤ Γ.cap) (hu : A.units + 3 < cLine) (q : ∀ (h' : Heap) (tk : Nat) (L : List κ), Γ.St h' s.heap.objs.size L → (∀ z, z ∈ L ↔ z ∈ ks) → (∀ b o, s.heap.get? b = some o → h'.get? b = some o) → Q (.ref s.heap.objs.size) { s with heap := h', toks := tk }) :
    wpAny (model P w) A (call (.type "set") [.ref l]) Q E s := by
  obtain ⟨c, tl, hmro⟩ := F.called_set.mro
  have hmade := F.called_set.made
  have hsub := F.called_set.sub
  refine wpAny_call (codeAny_of_tree ?_)
  show wpAny _ _ (callAny (.type "set") _) _ _ _
  refine wpAny_pure ⟨Code.quiet_builtin _ (by decide +kernel), codeAny_builtin F.entry_type_call ?_⟩
  rw [Around.under_plain (weight_type_call_type "set" [.ref l] []) rfl]
  have k1 := F.called_set.notType
  have k2 := F.called_set.canCreate
  have k3 := F.typeCall_set_1 (.ref l)
  repeat (any_goals (first | assumption | wp_step))
  have H0 : (s.heap.push (newSet w)).get? s.heap.objs.size = some (newSet w) := Heap.get?_push_size _ rfl
  refine codeAny_mono (code_set_led1 (.ref l) (E := E) (Q₁ := fun ob s₁ => ob = .ref s.heap.objs.size ∧ s₁ = { s with heap := s.heap.push (newSet w) }) ⟨rfl, rfl⟩) fun r s₁ hr => ?_
  cases r with
  | error e => exact hr
  | ok fl =>
    cases fl with
    | ret ob =>
      obtain ⟨rfl, rfl⟩ := hr
      have ty : Shared.TypeIs { s with heap := s.heap.push (newSet w) } (.ref s.heap.objs.size) "set" := ⟨_, H0, rfl⟩
      have i1 := F.called_set.init.lookup
      have i2 := F.called_set.init.bind (.ref s.heap.objs.size)
      repeat (any_goals (first | assumption | wp_step))
      refine codeAny_mono (codeAny_call_builtin (R := wants (fun r s₂ => r = .none ∧ ∃ h' tk L, s₂ = { s with heap := h', toks := tk } ∧ Γ.St h' s.heap.objs.size L ∧ (∀ z, z ∈ L ↔ z ∈ ks) ∧ (∀ b o, s.heap.get? b = some o → h'.get? b = some o)) E)
        F.called_set.init.plain F.entry_set_init (check_set_init_1 ty ?_)) fun r₂ s₂ hr₂ => ?_
      · obtain ⟨ol, eol, hcl, nl, hdl⟩ := hl
        obtain ⟨ocls, odict, odata, oslots⟩ := ol
        simp only at hcl hdl
        subst hcl hdl
        have eol' : (s.heap.push (newSet w)).get? l = some { cls := .type "list", dict := odict, data := .seq items nl, slots := oslots } := Heap.get?_push_of_some _ eol
        have j1 := F.sub_list_set
        have j2 := F.sub_list_frozenset
        have j3 : (Value.type "list" == Value.type "dict") = false := by decide
        have il : (s.heap.push (newSet w)).IsList l items := ⟨_, eol', rfl, nl, rfl⟩
        unfold Builtin.«set.__init__» noKeywords Builtin.Frozenset.updateFrom
        generalize hPI : pyIter = PI
        wp_walk
        subst hPI
        refine wpAny_pyIter_list il (wpAny_bind (wpAny_runValue ?_))
        have lls : l < s.heap.objs.size := Heap.lt_size eol
        have ah : A.in1.in1.in1.handled = none := by simp [hh]
        have nI : l ≠ (s.heap.push (newSet w)).objs.size := by
          rw [Heap.size_push]; exact Nat.ne_of_lt (Nat.lt_succ_of_lt lls)
        have nS : s.heap.objs.size ∉ [(s.heap.push (newSet w)).objs.size, l] := by
          rw [Heap.size_push]; simp only [List.mem_cons, List.mem_singleton, List.not_mem_nil, or_false, not_or]
          exact ⟨Nat.ne_of_lt (Nat.lt_succ_self _), Nat.ne_of_gt lls⟩
        have past : ∀ b, s.heap.objs.size ≤ b → s.heap.get? b = none := fun b hb => by
          cases e : s.heap.get? b with
          | none => rfl
          | some o => exact absurd (Nat.lt_of_lt_of_le (Heap.lt_size e) hb) (Nat.lt_irrefl _)
        refine loopG Γ ((Walks.list ah _ l nI items).toS) s.heap.objs.size nS ks en hc hi (fun b hb => past b (by rw [List.mem_singleton.mp hb, Heap.size_push]; exact Nat.le_succ _)) (past _ (Nat.le_refl _)) hu (items.size - 0) 0 _ [] (by omega) (Nat.zero_le _)
          ⟨⟨_, Heap.get?_push_size _ rfl, rfl, rfl⟩, (il.push _)⟩ (fun b o e => Heap.get?_push_of_some _ (Heap.get?_push_of_some _ e)) (Γ.fresh _ _ (past _ (Nat.le_refl _)) (Heap.get?_push_of_some _ H0)) (fun z => by simp) (Nat.le_refl _) fun s' L mv gs mem => ?_
        obtain ⟨h', g', d', tk', os'⟩ := s'
        obtain rfl : g' = s.gens := mv.gens
        obtain rfl : d' = s.drawn := mv.drawn
        obtain rfl : os' = s.os := mv.os
        show wpAny _ _ _ _ _ _
        refine wpAny_pure ?_
        show wpAny _ _ (ret Value.none) _ _ _
        refine wpAny_pure ⟨rfl, h', tk', L, rfl, gs, mem, fun b o e => mv.heap b o ?_ (Heap.get?_push_of_some _ (Heap.get?_push_of_some _ e))⟩
        simp only [List.mem_cons, List.mem_singleton, List.not_mem_nil, or_false, not_or]
        refine ⟨Nat.ne_of_lt (Heap.lt_size e), ?_⟩
        rw [Heap.size_push]
        exact Nat.ne_of_lt (Nat.lt_succ_of_lt (Heap.lt_size e))
      · cases r₂ with
        | error e => exact hr₂
        | ok fl₂ =>
          cases fl₂ with
          | ret r =>
            obtain ⟨rfl, h', tk, L, rfl, gs, mem, up⟩ := hr₂
            repeat (any_goals (first | assumption | wp_step))
            exact q _ _ _ gs mem up
          | _ => exact hr₂.elim
    | _ => exact hr.elim
set_option maxRecDepth 100000 in
set_option maxHeartbeats 3200000 in
/-- set(xs), xs a tuple of keys -/
theorem call_tuple (Γ : Gath P w s.heap κ) {l : Addr} {items : Array Value} (ks : List κ) {Q : Value → Shared → Prop} (hh : A.handled = none) (hl : s.heap.IsTuple l items) (en : items.size = ks.length) (hi : ∀ (i : Nat) (v : Value), items[i]? = some v → ∃ k, ks[i]? = some k ∧ Γ.Is k v)
    (hc : ks.length ≤ Γ.cap) (hu : A.units + 3 < cLine) (q : ∀ (h' : Heap) (tk : Nat) (L : List κ), Γ.St h' s.heap.objs.size L → (∀ z, z ∈ L ↔ z ∈ ks) → (∀ b o, s.heap.get? b = some o → h'.get? b = some o) → Q (.ref s.heap.objs.size) { s with heap := h', toks := tk }) :
    wpAny (model P w) A (call (.type "set") [.ref l]) Q E s := by
  obtain ⟨c, tl, hmro⟩ := F.called_set.mro
  have hmade := F.called_set.made
  have hsub := F.called_set.sub
  refine wpAny_call (codeAny_of_tree ?_)
  show wpAny _ _ (callAny (.type "set") _) _ _ _
  refine wpAny_pure ⟨Code.quiet_builtin _ (by decide +kernel), codeAny_builtin F.entry_type_call ?_⟩
  rw [Around.under_plain (weight_type_call_type "set" [.ref l] []) rfl]
  have k1 := F.called_set.notType
  have k2 := F.called_set.canCreate
  have k3 := F.typeCall_set_1 (.ref l)
  repeat (any_goals (first | assumption | wp_step))
  have H0 : (s.heap.push (newSet w)).get? s.heap.objs.size = some (newSet w) := Heap.get?_push_size _ rfl
  refine codeAny_mono (code_set_led1 (.ref l) (E := E) (Q₁ := fun ob s₁ => ob = .ref s.heap.objs.size ∧ s₁ = { s with heap := s.heap.push (newSet w) }) ⟨rfl, rfl⟩) fun r s₁ hr => ?_
  cases r with
  | error e => exact hr
  | ok fl =>
    cases fl with
    | ret ob =>
      obtain ⟨rfl, rfl⟩ := hr
      have ty : Shared.TypeIs { s with heap := s.heap.push (newSet w) } (.ref s.heap.objs.size) "set" := ⟨_, H0, rfl⟩
      have i1 := F.called_set.init.lookup
      have i2 := F.called_set.init.bind (.ref s.heap.objs.size)
      repeat (any_goals (first | assumption | wp_step))
      refine codeAny_mono (codeAny_call_builtin (R := wants (fun r s₂ => r = .none ∧ ∃ h' tk L, s₂ = { s with heap := h', toks := tk } ∧ Γ.St h' s.heap.objs.size L ∧ (∀ z, z ∈ L ↔ z ∈ ks) ∧ (∀ b o, s.heap.get? b = some o → h'.get? b = some o)) E)
        F.called_set.init.plain F.entry_set_init (check_set_init_1 ty ?_)) fun r₂ s₂ hr₂ => ?_
      · obtain ⟨ol, eol, hcl, nl, hdl⟩ := hl
        obtain ⟨ocls, odict, odata, oslots⟩ := ol
        simp only at hcl hdl
        subst hcl hdl
        have eol' : (s.heap.push (newSet w)).get? l = some { cls := .type "tuple", dict := odict, data := .seq items nl, slots := oslots } := Heap.get?_push_of_some _ eol
        have j1 := F.sub_tuple_set
        have j2 := F.sub_tuple_frozenset
        have j3 : (Value.type "tuple" == Value.type "dict") = false := by decide
        have il : (s.heap.push (newSet w)).IsTuple l items := ⟨_, eol', rfl, nl, rfl⟩
        unfold Builtin.«set.__init__» noKeywords Builtin.Frozenset.updateFrom
        generalize hPI : pyIter = PI
        wp_walk
        subst hPI
        refine wpAny_pyIter_tuple il (wpAny_bind (wpAny_runValue ?_))
        have lls : l < s.heap.objs.size := Heap.lt_size eol
        have ah : A.in1.in1.in1.handled = none := by simp [hh]
        have nI : l ≠ (s.heap.push (newSet w)).objs.size := by
          rw [Heap.size_push]; exact Nat.ne_of_lt (Nat.lt_succ_of_lt lls)
        have nS : s.heap.objs.size ∉ [(s.heap.push (newSet w)).objs.size, l] := by
          rw [Heap.size_push]; simp only [List.mem_cons, List.mem_singleton, List.not_mem_nil, or_false, not_or]
          exact ⟨Nat.ne_of_lt (Nat.lt_succ_self _), Nat.ne_of_gt lls⟩
        have past : ∀ b, s.heap.objs.size ≤ b → s.heap.get? b = none := fun b hb => by
          cases e : s.heap.get? b with
          | none => rfl
          | some o => exact absurd (Nat.lt_of_lt_of_le (Heap.lt_size e) hb) (Nat.lt_irrefl _)
        refine loopG Γ ((Walks.tuple ah _ l nI items).toS) s.heap.objs.size nS ks en hc hi (fun b hb => past b (by rw [List.mem_singleton.mp hb, Heap.size_push]; exact Nat.le_succ _)) (past _ (Nat.le_refl _)) hu (items.size - 0) 0 _ [] (by omega) (Nat.zero_le _)
          ⟨⟨_, Heap.get?_push_size _ rfl, rfl, rfl⟩, (il.push _)⟩ (fun b o e => Heap.get?_push_of_some _ (Heap.get?_push_of_some _ e)) (Γ.fresh _ _ (past _ (Nat.le_refl _)) (Heap.get?_push_of_some _ H0)) (fun z => by simp) (Nat.le_refl _) fun s' L mv gs mem => ?_
        obtain ⟨h', g', d', tk', os'⟩ := s'
        obtain rfl : g' = s.gens := mv.gens
        obtain rfl : d' = s.drawn := mv.drawn
        obtain rfl : os' = s.os := mv.os
        show wpAny _ _ _ _ _ _
        refine wpAny_pure ?_
        show wpAny _ _ (ret Value.none) _ _ _
        refine wpAny_pure ⟨rfl, h', tk', L, rfl, gs, mem, fun b o e => mv.heap b o ?_ (Heap.get?_push_of_some _ (Heap.get?_push_of_some _ e))⟩
        simp only [List.mem_cons, List.mem_singleton, List.not_mem_nil, or_false, not_or]
        refine ⟨Nat.ne_of_lt (Heap.lt_size e), ?_⟩
        rw [Heap.size_push]
        exact Nat.ne_of_lt (Nat.lt_succ_of_lt (Heap.lt_size e))
      · cases r₂ with
        | error e => exact hr₂
        | ok fl₂ =>
          cases fl₂ with
          | ret r =>
            obtain ⟨rfl, h', tk, L, rfl, gs, mem, up⟩ := hr₂
            repeat (any_goals (first | assumption | wp_step))
            exact q _ _ _ gs mem up
          | _ => exact hr₂.elim
    | _ => exact hr.elim
end
end DLS
end
section
/-! Deep data over Python values: the plain side. No model here. -/
set_option linter.all false
namespace DL
open PySem

abbrev Ky := Sum Int Str

inductive D where
  | non | bl (b : Bool) | int (i : Int) | str (x : Str)
  | tup (ds : List D) | lst (ds : List D)
  | dct (kvs : List (Ky × D)) | dctT (kvs : List (List Ky × D))
  | exn (c : Str) | scr (ns : List Int)
  deriving Inhabited

def okStr (x : Str) : Bool := x.cps.toList.all fun c => c < 0x110000

mutual
/-- Python's == on plain data -/
def D.eqv : D → D → Bool
  | .non, .non => true
  | .bl a, .bl b => a == b
  | .bl a, .int j => (if a then 1 else 0) == j
  | .int i, .bl b => i == (if b then 1 else 0)
  | .int i, .int j => i == j
  | .str x, .str y => x == y
  | .lst xs, .lst ys => D.eqvs xs ys
  | .tup xs, .tup ys => D.eqvs xs ys
  | _, _ => false
def D.eqvs : List D → List D → Bool
  | [], [] => true
  | x :: xs, y :: ys => D.eqv x y && D.eqvs xs ys
  | _, _ => false
end
mutual
def D.dep : D → Nat
  | .lst xs => D.deps xs + 1
  | .tup xs => D.deps xs + 1
  | _ => 0
def D.deps : List D → Nat
  | [] => 0
  | x :: xs => max (D.dep x) (D.deps xs)
end
mutual
/-- what == may look at -/
def D.laid : D → Bool
  | .non => true | .bl _ => true | .int _ => true
  | .str x => okStr x
  | .lst xs => D.laids xs
  | .tup xs => D.laids xs
  | _ => false
def D.laids : List D → Bool
  | [] => true
  | x :: xs => D.laid x && D.laids xs
end

/-- the script as a list -/
def D.norm : D → D
  | .scr ns => .lst (ns.map .int)
  | d => d

inductive Res where
  | ret (d : D) (fr : Bool) | exc (c : Str) | bad
  deriving Inhabited
inductive Arg where
  | d (d : D) | t (r : Res) | ts (rs : List Res)
  deriving Inhabited
instance : Coe D Arg := ⟨.d⟩

inductive Slot where
  | no | val (d : D) | own (d : D) | lck (d : D) | thk (r : Res) | thks (rs : List Res) | lams (ids : List Nat)
  deriving Inhabited
abbrev Sl := List Slot
def Slot.get : Slot → Option D
  | .val d => some d
  | .own d => some d
  | .lck d => some d
  | _ => none
def Slot.ofArg : Arg → Slot
  | .d d => .val d
  | .t r => .thk r
  | .ts rs => .thks rs

inductive Rv where
  | dat (d : D) | new (d : D) | slot (i : Nat)
  deriving Inhabited
def Rv.fix : Rv → Rv
  | .new d => .dat d
  | r => r
def Rv.get (sl : Sl) : Rv → Option D
  | .dat d => some d
  | .new d => some d
  | .slot i => (sl[i]?).bind Slot.get

def sizeL : Nat := 16777216

/-! ### what Python's operations do on plain data -/
def opAdd : D → D → Option Rv
  | .int i, .int j => some (.dat (.int (i + j)))
  | .str x, .str y => if x.length + y.length ≤ sizeL then some (.dat (.str (x ++ y))) else none
  | .lst a, .lst b => if a.length + b.length ≤ sizeL then some (.new (.lst (a ++ b))) else none
  | .tup a, .tup b => if a.length + b.length ≤ sizeL then some (.dat (.tup (a ++ b))) else none
  | _, _ => none
def opSub : D → D → Option Rv
  | .int i, .int j => some (.dat (.int (i - j)))
  | _, _ => none
def okMul (i j : Int) : Bool := decide ((-(2 ^ 64) < i ∧ i < 2 ^ 64) ∨ (-(2 ^ 64) < j ∧ j < 2 ^ 64)) || decide (i.natAbs.log2 + j.natAbs.log2 < 1000000)
def opMul : D → D → Option Rv
  | .int i, .int j => if okMul i j = true then some (.dat (.int (i * j))) else none
  | .tup a, .int j => if a ≠ [] ∧ 1 ≤ j ∧ j ≤ 1000 ∧ a.length ≤ 1000 then some (.dat (.tup (List.replicate j.toNat a).flatten)) else none
  | .lst a, .int j => if 0 ≤ j ∧ j ≤ 1000 ∧ a.length ≤ 1000 then some (.new (.lst (List.replicate j.toNat a).flatten)) else none
  | _, _ => none
def opFdiv : D → D → Option Rv
  | .int i, .int j => if 0 < j ∧ j.natAbs.log2 < 9000 then some (.dat (.int (i / j))) else none
  | _, _ => none
def opMod : D → D → Option Rv
  | .int i, .int j => if 0 < j then some (.dat (.int (i % j))) else none
  | _, _ => none
def opNeg : D → Option Rv
  | .int i => some (.dat (.int (-i)))
  | _ => none
def opEq0 (a b : D) : Option Bool := if a.laid = true ∧ b.laid = true ∧ min a.dep b.dep ≤ 64 then some (D.eqv a b) else none
def opEq (a b : D) : Option Rv := (opEq0 a.norm b.norm).map fun k => .dat (.bl k)
def opNe (a b : D) : Option Rv := (opEq0 a.norm b.norm).map fun k => .dat (.bl (!k))
def cmpI (p : Int → Int → Bool) : D → D → Option Rv
  | .int i, .int j => some (.dat (.bl (p i j)))
  | _, _ => none
def strLt (x y : Str) : Bool := decide (x.cps.toList < y.cps.toList)
def opLt : D → D → Option Rv
  | .int i, .int j => some (.dat (.bl (decide (i < j))))
  | .str x, .str y => some (.dat (.bl (strLt x y)))
  | _, _ => none
def opLe : D → D → Option Rv
  | .int i, .int j => some (.dat (.bl (decide (i ≤ j))))
  | .str x, .str y => some (.dat (.bl (!strLt y x)))
  | _, _ => none
def opGt : D → D → Option Rv
  | .int i, .int j => some (.dat (.bl (decide (j < i))))
  | .str x, .str y => some (.dat (.bl (strLt y x)))
  | _, _ => none
def opGe : D → D → Option Rv
  | .int i, .int j => some (.dat (.bl (decide (j ≤ i))))
  | .str x, .str y => some (.dat (.bl (!strLt x y)))
  | _, _ => none
def D.key? : D → Option Ky
  | .int i => some (.inl i)
  | .str x => some (.inr x)
  | _ => none
def keys? : List D → Option (List Ky)
  | [] => some []
  | d :: ds => d.key?.bind fun k => (keys? ds).map fun ks => k :: ks
def dGet {κ : Type} [DecidableEq κ] : List (κ × D) → κ → Option D
  | [], _ => none
  | (k, d) :: r, k' => if k = k' then some d else dGet r k'
def dSet {κ : Type} [DecidableEq κ] (kvs : List (κ × D)) (k : κ) (d : D) : List (κ × D) :=
  if (kvs.any fun p => decide (p.1 = k)) = true then kvs.map (fun p => if p.1 = k then (p.1, d) else p) else kvs ++ [(k, d)]
/-- what a dict holds at a key -/
def dLook : D → D → Option (Option D)
  | .dct kvs, k => k.key?.map fun q => dGet kvs q
  | .dctT kvs, .tup ks => (keys? ks).map fun q => dGet kvs q
  | _, _ => none
def D.isKey : D → Bool
  | .int _ => true | .str _ => true | _ => false
def D.flat : D → Bool
  | .int _ => true | .str _ => true | .non => true | _ => false
def inStr (y : Str) : D → Option Bool
  | .str x => if x.cps.size = 1 then some (decide (x.cps.toList.headD 0 ∈ y.cps.toList)) else none
  | _ => none
def opIn0 (x : D) : D → Option Bool
  | .lst ds => if x.laid = true ∧ D.laids ds = true ∧ x.dep ≤ 60 ∧ D.deps ds ≤ 60 then some (ds.any fun z => D.eqv z x) else none
  | .tup ds => if x.isKey = true ∧ ds.all D.flat = true then some (ds.any fun z => D.eqv z x) else none
  | .str y => inStr y x
  | .dct kvs => (dLook (.dct kvs) x).map fun o => o.isSome
  | .dctT kvs => (dLook (.dctT kvs) x).map fun o => o.isSome
  | _ => none
def opIn (a b : D) : Option Rv := (opIn0 a b).map fun k => .dat (.bl k)
def opNotIn (a b : D) : Option Rv := (opIn0 a b).map fun k => .dat (.bl (!k))
def opIs : D → D → Option Rv
  | .bl a, .bl b => some (.dat (.bl (a == b)))
  | .non, .non => some (.dat (.bl true))
  | .bl _, .non => some (.dat (.bl false)) | .int _, .non => some (.dat (.bl false)) | .str _, .non => some (.dat (.bl false))
  | .lst _, .non => some (.dat (.bl false)) | .tup _, .non => some (.dat (.bl false)) | .dct _, .non => some (.dat (.bl false))
  | _, _ => none
def opIsNot : D → D → Option Rv
  | .bl a, .bl b => some (.dat (.bl (!(a == b))))
  | .non, .non => some (.dat (.bl false))
  | .bl _, .non => some (.dat (.bl true)) | .int _, .non => some (.dat (.bl true)) | .str _, .non => some (.dat (.bl true))
  | .lst _, .non => some (.dat (.bl true)) | .tup _, .non => some (.dat (.bl true)) | .dct _, .non => some (.dat (.bl true))
  | _, _ => none
/-- the place that an index means -/
def ixOf (n : Nat) (i : Int) : Option Nat := if 0 ≤ i then (if i < n then some i.toNat else none) else if -(n : Int) ≤ i then some (i + n).toNat else none
def atD {α : Type} (xs : List α) (i : Int) : Option α := (ixOf xs.length i).bind fun j => xs[j]?
def opIx : D → D → Option Rv
  | .lst ds, .int i => (atD ds i).map .dat
  | .tup ds, .int i => (atD ds i).map .dat
  | .scr ns, .int i => (atD ns i).map fun n => .dat (.int n)
  | .str x, .int i => if x.length ≤ sizeL then (atD x.cps.toList i).map fun c => .dat (.str ⟨#[c]⟩) else none
  | .dct kvs, k => (dLook (.dct kvs) k).bind fun o => o.map .dat
  | .dctT kvs, k => (dLook (.dctT kvs) k).bind fun o => o.map .dat
  | _, _ => none
def opLen : List D → Option Rv
  | [.lst ds] => some (.dat (.int ds.length))
  | [.tup ds] => some (.dat (.int ds.length))
  | [.scr ns] => some (.dat (.int ns.length))
  | [.str x] => if x.length ≤ sizeL then some (.dat (.int x.length)) else none
  | [.dct kvs] => some (.dat (.int kvs.length))
  | _ => none
/-- the built-in type of plain data -/
def D.ty? : D → Option String
  | .non => some "NoneType" | .bl _ => some "bool" | .int _ => some "int" | .str _ => some "str"
  | .lst _ => some "list" | .tup _ => some "tuple" | .dct _ => some "dict" | .dctT _ => some "dict"
  | _ => none
/-- isinstance of plain data with one of int, bool, str, tuple, list, dict -/
def isTy (T : String) (d : D) : Option Bool := d.ty?.map fun t => t == T || (T == "int" && t == "bool")
def opIsi (T : String) : List D → Option Rv
  | [d] => (isTy T d).map fun k => .dat (.bl k)
  | _ => none
def bools? : List D → Option (List Bool)
  | [] => some []
  | .bl b :: ds => (bools? ds).map fun bs => b :: bs
  | _ :: _ => none
def opAll : List D → Option Rv
  | [.lst ds] => (bools? ds).map fun bs => .dat (.bl (bs.all id))
  | _ => none
def opAny : List D → Option Rv
  | [.lst ds] => (bools? ds).map fun bs => .dat (.bl (bs.any id))
  | _ => none
def ints? : List D → Option (List Int)
  | [] => some []
  | .int b :: ds => (ints? ds).map fun bs => b :: bs
  | _ :: _ => none
def strs? : List D → Option (List Str)
  | [] => some []
  | .str b :: ds => (strs? ds).map fun bs => b :: bs
  | _ :: _ => none
def opSum : List D → Option Rv
  | [.lst ds] => (ints? ds).map fun bs => .dat (.int bs.sum)
  | _ => none
def listMax : List Int → Int
  | [] => 0
  | [a] => a
  | a :: r => max a (listMax r)
def listMin : List Int → Int
  | [] => 0
  | [a] => a
  | a :: r => min a (listMin r)
def opMax : List D → Option Rv
  | [.lst ds] => (ints? ds).bind fun bs => if bs = [] then none else some (.dat (.int (listMax bs)))
  | [.int i, .int j] => some (.dat (.int (if j > i then j else i)))
  | _ => none
def opMin : List D → Option Rv
  | [.lst ds] => (ints? ds).bind fun bs => if bs = [] then none else some (.dat (.int (listMin bs)))
  | [.int i, .int j] => some (.dat (.int (if j < i then j else i)))
  | _ => none
def opTuple : List D → Option Rv
  | [.lst ds] => some (.dat (.tup ds))
  | [.tup ds] => some (.dat (.tup ds))
  | _ => none
def opList : List D → Option Rv
  | [.lst ds] => some (.new (.lst ds))
  | [.tup ds] => some (.new (.lst ds))
  | _ => none
def slIx (n d : Nat) : Option Int → Nat
  | none => d
  | some v => if v < 0 then (v + (n : Int)).toNat else min v.toNat n
def cutL {α : Type} (xs : List α) (lo hi : Option Int) : List α := (xs.drop (slIx xs.length 0 lo)).take (slIx xs.length xs.length hi - slIx xs.length 0 lo)
def cutSt (z : Str) (lo hi : Option Int) : Str := ⟨((z.cps.toList.drop (slIx z.length 0 lo)).take (slIx z.length z.length hi - slIx z.length 0 lo)).toArray⟩
def opCut (lo hi : Option Int) : D → Option Rv
  | .lst ds => some (.new (.lst (cutL ds lo hi)))
  | .tup ds => some (.dat (.tup (cutL ds lo hi)))
  | .str x => if x.length ≤ sizeL then some (.dat (.str (cutSt x lo hi))) else none
  | _ => none
def opRev : D → Option Rv
  | .lst ds => some (.new (.lst ds.reverse))
  | _ => none
/-- the first place of a value in a list -/
def findD (x : D) : List D → Nat → Option Nat
  | [], _ => none
  | d :: ds, i => if D.eqv d x = true then some i else findD x ds (i + 1)
def opIndex : D → List D → Option Rv
  | .lst ds, [x] => if x.laid = true ∧ D.laids ds = true ∧ x.dep ≤ 60 ∧ D.deps ds ≤ 60 then (findD x ds 0).map fun i => Rv.dat (.int (i : Nat)) else none
  | _, _ => none
def D.scalar : D → Bool
  | .int _ => true | .str _ => true | .non => true | .bl _ => true | _ => false
def opGetD : D → List D → Option Rv
  | d, [k, z] => if z.scalar = true then (dLook d k).map fun o => .dat (o.getD z) else none
  | _, _ => none
def opInt : List D → Option Rv
  | [.int i] => some (.dat (.int i))
  | [.bl b] => some (.dat (.int (if b then 1 else 0)))
  | _ => none

inductive EOut where
  | ok (r : Rv) (sl : Sl) | exc (c : Str) (sl : Sl) | bad
abbrev ME := Sl → EOut
def EOut.bind : EOut → (Rv → Sl → EOut) → EOut
  | .ok r sl, k => k r sl
  | .exc c sl, _ => .exc c sl
  | .bad, _ => .bad
/-- a value that goes into other data: an own list is frozen -/
def frz (r : Rv) (sl : Sl) : Option (D × Sl) := match r with
  | .dat d => some (d, sl)
  | .new d => some (d, sl)
  | .slot i => match sl[i]? with
    | some (.val d) => some (d, sl)
    | some (.own d) => some (d, sl.set i (.val d))
    | _ => none

def mVar (i : Nat) : ME := fun sl => match sl[i]? with
  | some .no => .bad
  | some (.val d) => .ok (.dat d) sl
  | some _ => .ok (.slot i) sl
  | none => .bad
def mC (d : D) : ME := fun sl => .ok (.dat d) sl
def Op1 := D → Option Rv
def Op2 := D → D → Option Rv
def mUn (f : D → Option Rv) (a : ME) : ME := fun sl => (a sl).bind fun r sl1 => match r.get sl1 with
  | some x => (match f x with
    | some z => .ok z sl1
    | none => .bad)
  | none => .bad
def mBin (f : D → D → Option Rv) (a b : ME) : ME := fun sl => (a sl).bind fun ra sl1 => (b sl1).bind fun rb sl2 => match ra.fix.get sl2, rb.fix.get sl2 with
  | some x, some y => (match f x y with
    | some z => .ok z sl2
    | none => .bad)
  | _, _ => .bad

def mChain (f g : D → D → Option Rv) (a b c : ME) : ME := fun sl => (a sl).bind fun ra sl1 => (b sl1).bind fun rb sl2 => match ra.fix.get sl2, rb.fix.get sl2 with
  | some x, some y => (match f x y with
    | some (.dat (.bl true)) => (c sl2).bind fun rc sl3 => (match rb.fix.get sl3, rc.fix.get sl3 with
      | some y', some z => (match g y' z with
        | some r => .ok r sl3
        | none => .bad)
      | _, _ => .bad)
    | some (.dat (.bl false)) => .ok (.dat (.bl false)) sl2
    | _ => .bad)
  | _, _ => .bad
/-- e[lo:hi], the bounds whole numbers or left out -/
inductive POut where
  | ok (o : Option Int) (sl : Sl) | exc (c : Str) (sl : Sl) | bad
abbrev MP := Sl → POut
def mpNone : MP := fun sl => .ok none sl
def mpSome (a : ME) : MP := fun sl => match a sl with
  | .ok r sl1 => (match r.get sl1 with
    | some (.int i) => .ok (some i) sl1
    | _ => .bad)
  | .exc c sl1 => .exc c sl1
  | .bad => .bad
def mCut (a : ME) (lo hi : MP) : ME := fun sl => (a sl).bind fun ra sl1 => match lo sl1 with
  | .ok l sl2 => (match hi sl2 with
    | .ok h sl3 => (match ra.fix.get sl3 with
      | some x => (match opCut l h x with
        | some r => .ok r sl3
        | none => .bad)
      | none => .bad)
    | .exc c sl3 => .exc c sl3
    | .bad => .bad)
  | .exc c sl2 => .exc c sl2
  | .bad => .bad
inductive AOut where
  | ok (rs : List Rv) (sl : Sl) | exc (c : Str) (sl : Sl) | bad
abbrev MA := Sl → AOut
def maNil : MA := fun sl => .ok [] sl
def maCons (a : ME) (m : MA) : MA := fun sl => match a sl with
  | .ok r sl1 => (match m sl1 with
    | .ok rs sl2 => .ok (r.fix :: rs) sl2
    | .exc c sl2 => .exc c sl2
    | .bad => .bad)
  | .exc c sl1 => .exc c sl1
  | .bad => .bad
def getAll (sl : Sl) : List Rv → Option (List D)
  | [] => some []
  | r :: rs => (r.get sl).bind fun d => (getAll sl rs).map fun ds => d :: ds
def frzAll : List Rv → Sl → Option (List D × Sl)
  | [], sl => some ([], sl)
  | r :: rs, sl => (frz r sl).bind fun p => (frzAll rs p.2).map fun q => (p.1 :: q.1, q.2)
/-- a built-in of plain data -/
def mOp (f : List D → Option Rv) (as : MA) : ME := fun sl => match as sl with
  | .ok rs sl1 => (match getAll sl1 rs with
    | some ds => (match f ds with
      | some z => .ok z sl1
      | none => .bad)
    | none => .bad)
  | .exc c sl1 => .exc c sl1
  | .bad => .bad
/-- o.m(e, ..) of plain data that reads -/
def mMeth (t : D → Bool) (f : D → List D → Option Rv) (a : ME) (as : MA) : ME := fun sl => (a sl).bind fun ra sl1 => match ra.fix.get sl1 with
  | some x0 => if t x0 = true then (match as sl1 with
    | .ok rs sl2 => (match ra.fix.get sl2, getAll sl2 rs with
      | some x, some ds => (match f x ds with
        | some z => .ok z sl2
        | none => .bad)
      | _, _ => .bad)
    | .exc c sl2 => .exc c sl2
    | .bad => .bad) else .bad
  | none => .bad
def isLst : D → Bool
  | .lst _ => true | _ => false
def isDct : D → Bool
  | .dct _ => true | .dctT _ => true | _ => false
def isStr : D → Bool
  | .str _ => true | _ => false
def mTup (as : MA) : ME := fun sl => match as sl with
  | .ok rs sl1 => (match frzAll rs sl1 with
    | some (ds, sl2) => if ds.length ≤ sizeL then .ok (.dat (.tup ds)) sl2 else .bad
    | none => .bad)
  | .exc c sl1 => .exc c sl1
  | .bad => .bad
def mLst (as : MA) : ME := fun sl => match as sl with
  | .ok rs sl1 => (match frzAll rs sl1 with
    | some (ds, sl2) => if ds.length ≤ sizeL then .ok (.new (.lst ds)) sl2 else .bad
    | none => .bad)
  | .exc c sl1 => .exc c sl1
  | .bad => .bad
def toArg (r : Rv) (sl : Sl) : Option (Arg × Sl) := match r with
  | .dat d => some (.d d, sl)
  | .new d => some (.d d, sl)
  | .slot i => match sl[i]? with
    | some (.val d) => some (.d d, sl)
    | some (.own d) => some (.d d, sl.set i (.val d))
    | some (.thk r) => some (.t r, sl)
    | some (.thks rs) => some (.ts rs, sl)
    | _ => none
def toArgs : List Rv → Sl → Option (List Arg × Sl)
  | [], sl => some ([], sl)
  | r :: rs, sl => (toArg r sl).bind fun p => (toArgs rs p.2).map fun q => (p.1 :: q.1, q.2)
abbrev Fn := List Arg → Res
def Res.out : Res → Sl → EOut
  | .ret d true, sl => .ok (.new d) sl
  | .ret d false, sl => .ok (.dat d) sl
  | .exc c, sl => .exc c sl
  | .bad, _ => .bad
def mCall (g : Fn) (as : MA) : ME := fun sl => match as sl with
  | .ok rs sl1 => (match toArgs rs sl1 with
    | some (xs, sl2) => (g xs).out sl2
    | none => .bad)
  | .exc c sl1 => .exc c sl1
  | .bad => .bad
/-- a thunk in slot i is called -/
def mThk (i : Nat) : ME := fun sl => match sl[i]? with
  | some (.thk (.ret d _)) => .ok (.dat d) sl
  | some (.thk (.exc c)) => .exc c sl
  | _ => .bad

inductive TOut where
  | ok (b : Bool) (sl : Sl) | exc (c : Str) (sl : Sl) | bad
abbrev MT := Sl → TOut
def TOut.bind : TOut → (Bool → Sl → TOut) → TOut
  | .ok b sl, k => k b sl
  | .exc c sl, _ => .exc c sl
  | .bad, _ => .bad
def TOut.ebind : TOut → (Bool → Sl → EOut) → EOut
  | .ok b sl, k => k b sl
  | .exc c sl, _ => .exc c sl
  | .bad, _ => .bad
def mtVal (a : ME) : MT := fun sl => match a sl with
  | .ok r sl1 => (match r.get sl1 with
    | some (.bl b) => .ok b sl1
    | _ => .bad)
  | .exc c sl1 => .exc c sl1
  | .bad => .bad
def mtNot (t : MT) : MT := fun sl => (t sl).bind fun b sl1 => .ok (!b) sl1
def mtAnd (t u : MT) : MT := fun sl => (t sl).bind fun b sl1 => if b = true then u sl1 else .ok false sl1
def mtOr (t u : MT) : MT := fun sl => (t sl).bind fun b sl1 => if b = true then .ok true sl1 else u sl1
def mIf (t : MT) (a b : ME) : ME := fun sl => (t sl).ebind fun c sl1 => if c = true then a sl1 else b sl1
/-- and, or as values: all but the last are truths -/
def mAnd (a b : ME) : ME := fun sl => (mtVal a sl).ebind fun c sl1 => if c = true then b sl1 else .ok (.dat (.bl false)) sl1
def mOr (a b : ME) : ME := fun sl => (mtVal a sl).ebind fun c sl1 => if c = true then .ok (.dat (.bl true)) sl1 else b sl1
def mNot (a : ME) : ME := fun sl => (mtVal a sl).ebind fun c sl1 => .ok (.dat (.bl (!c))) sl1

/-- what is walked: the items -/
inductive IOut where
  | ok (items : List D) (sl : Sl) | exc (c : Str) (sl : Sl) | bad
abbrev MI := Sl → IOut
def itemsOf : D → Option (List D)
  | .lst ds => some ds
  | .tup ds => some ds
  | .str x => some (x.cps.toList.map fun c => .str ⟨#[c]⟩)
  | _ => none
/-- a sequence walked: an own list is frozen -/
def miSeq (a : ME) : MI := fun sl => match a sl with
  | .ok r sl1 => (match frz r sl1 with
    | some (d, sl2) => (match itemsOf d with
      | some ds => .ok ds sl2
      | none => .bad)
    | none => .bad)
  | .exc c sl1 => .exc c sl1
  | .bad => .bad
def rangeOf : List D → Option (List D)
  | [.int j] => if -(2 ^ 62) ≤ j ∧ j < 2 ^ 62 then some ((List.range j.toNat).map fun (i : Nat) => .int (i : Int)) else none
  | _ => none
def enumFrom : Nat → List D → List D
  | _, [] => []
  | i, d :: ds => .tup [.int (i : Nat), d] :: enumFrom (i + 1) ds
def enumOf : List D → Option (List D)
  | [.lst ds] => some (enumFrom 0 ds)
  | _ => none
def zipOf : List D → Option (List D)
  | [.lst ds, .lst es] => some ((ds.zip es).map fun p => .tup [p.1, p.2])
  | [.tup ds, .tup es] => some ((ds.zip es).map fun p => .tup [p.1, p.2])
  | _ => none
/-- range, enumerate, zip -/
def miOf (f : List D → Option (List D)) (as : MA) : MI := fun sl => match as sl with
  | .ok rs sl1 => (match frzAll rs sl1 with
    | some (ds, sl2) => (match f ds with
      | some items => .ok items sl2
      | none => .bad)
    | none => .bad)
  | .exc c sl1 => .exc c sl1
  | .bad => .bad

abbrev MG := D → Sl → Option Sl
def gSet (i : Nat) : MG := fun d sl => some (sl.set i (.val d))
def gSets : List Nat → List D → Sl → Option Sl
  | [], [], sl => some sl
  | i :: is, d :: ds, sl => gSets is ds (sl.set i (.val d))
  | _, _, _ => none
def gTups (is : List Nat) : MG := fun d sl => match d with
  | .tup ds => gSets is ds sl
  | _ => none
def wipeSl : List Nat → Sl → Sl
  | [], sl => sl
  | i :: is, sl => (wipeSl is sl).set i .no
/-- it owns an object -/
def Slot.mine : Slot → Bool
  | .own _ => true
  | .lck _ => true
  | .lams _ => true
  | _ => false
/-- own's slots as they were ahead -/
def backSl : List Nat → Sl → Sl → Sl
  | [], _, sl => sl
  | i :: is, old, sl => (match old[i]? with
    | some s => (backSl is old sl).set i (if s.mine = true then .no else s)
    | none => backSl is old sl)

def lcLoop (own : List Nat) (g : MG) (t : MT) (e : ME) : List D → List D → Sl → EOut
  | [], acc, sl => .ok (.new (.lst acc)) sl
  | x :: xs, acc, sl => match g x sl with
    | none => .bad
    | some sl1 => (match t sl1 with
      | .ok true sl2 => (match e sl2 with
        | .ok r sl3 => (match frz r sl3 with
          | some (d, sl4) => if acc.length < sizeL then lcLoop own g t e xs (acc ++ [d]) (wipeSl own sl4) else .bad
          | none => .bad)
        | _ => .bad)
      | .ok false sl2 => lcLoop own g t e xs acc (wipeSl own sl2)
      | _ => .bad)
def mtYes : MT := fun sl => .ok true sl
/-- [e for g in src if t] -/
def mLc (own : List Nat) (src : MI) (g : MG) (t : MT) (e : ME) : ME := fun sl => match src sl with
  | .ok items sl1 => (match lcLoop own g t e items [] (wipeSl own sl1) with
    | .ok r sl2 => .ok r (backSl own sl1 sl2)
    | _ => .bad)
  | .exc c sl1 => .exc c sl1
  | .bad => .bad

inductive SOut where
  | nx (sl : Sl) | bk (sl : Sl) | ct (sl : Sl) | rt (d : D) (fr : Bool) | exc (c : Str) (sl : Sl) | bad
abbrev MS := Sl → SOut
def msNil : MS := fun sl => .nx sl
def msSeq (a b : MS) : MS := fun sl => match a sl with
  | .nx sl1 => b sl1
  | o => o
def EOut.sbind : EOut → (Rv → Sl → SOut) → SOut
  | .ok r sl, k => k r sl
  | .exc c sl, _ => .exc c sl
  | .bad, _ => .bad
def TOut.sbind : TOut → (Bool → Sl → SOut) → SOut
  | .ok b sl, k => k b sl
  | .exc c sl, _ => .exc c sl
  | .bad, _ => .bad
def msExpr (a : ME) : MS := fun sl => (a sl).sbind fun _ sl1 => .nx sl1
/-- x = e -/
def storeRv (i : Nat) (r : Rv) (sl : Sl) : Option Sl := match r with
  | .dat d => some (sl.set i (.val d))
  | .new d => some (sl.set i (.own d))
  | .slot j => match sl[j]? with
    | some (.val d) => some (sl.set i (.val d))
    | some (.own d) => some ((sl.set j (.val d)).set i (.val d))
    | some (.thk r) => some (sl.set i (.thk r))
    | some (.thks rs) => some (sl.set i (.thks rs))
    | _ => none
def msSet (i : Nat) (a : ME) : MS := fun sl => (a sl).sbind fun r sl1 => match storeRv i r sl1 with
  | some sl2 => .nx sl2
  | none => .bad
/-- (a, b, ..) = e -/
def msUnp (is : List Nat) (a : ME) : MS := fun sl => (a sl).sbind fun r sl1 => match frz r sl1 with
  | some (d, sl2) => (match gTups is d sl2 with
    | some sl3 => .nx sl3
    | none => .bad)
  | none => .bad
def storeAll : List Nat → List Rv → Sl → Option Sl
  | [], [], sl => some sl
  | i :: is, r :: rs, sl => (storeRv i r sl).bind fun sl1 => storeAll is rs sl1
  | _, _, _ => none
def okPar : List Rv → Bool := fun rs => rs.all fun r => match r with
  | .slot _ => false
  | _ => true
/-- x.m(e, ..), x[k] = e: x's own object changes -/
def msMut (t : D → Bool) (i : Nat) (f : D → List D → Option D) (as : MA) : MS := fun sl => match sl[i]? with
  | some (.own d0) => if t d0 = true then (match as sl with
    | .ok rs sl1 => (match frzAll rs sl1 with
      | some (ds, sl2) => (match sl2[i]? with
        | some (.own d) => (match f d ds with
          | some d' => .nx (sl2.set i (.own d'))
          | none => .bad)
        | _ => .bad)
      | none => .bad)
    | .exc c sl1 => .exc c sl1
    | .bad => .bad) else .bad
  | _ => .bad
def isAny : D → Bool := fun _ => true
def mmAppend : D → List D → Option D
  | .lst ds, [d] => if ds.length < sizeL then some (.lst (ds ++ [d])) else none
  | _, _ => none
def mmExtend : D → List D → Option D
  | .lst ds, [.lst es] => if ds.length + es.length ≤ sizeL then some (.lst (ds ++ es)) else none
  | _, _ => none
/-- the value first, then the key -/
def mmPut : D → List D → Option D
  | .dct kvs, [v, k] => if kvs.length < sizeL then k.key?.map fun q => .dct (dSet kvs q v) else none
  | .dctT kvs, [v, .tup ks] => if kvs.length < sizeL then (keys? ks).map fun q => .dctT (dSet kvs q v) else none
  | _, _ => none
/-- {k: v} -/
def mDisp1 (a b : ME) : ME := fun sl => (a sl).bind fun ra sl1 => (b sl1).bind fun rb sl2 => match frzAll [ra.fix, rb.fix] sl2 with
  | some ([k, v], sl3) => (match k.key? with
    | some q => .ok (.new (.dct [(q, v)])) sl3
    | none => .bad)
  | _ => .bad
def mNewK : ME := fun sl => .ok (.new (.dct [])) sl
def mNewT : ME := fun sl => .ok (.new (.dctT [])) sl
/-- dict of pairs -/
def pairs? : List D → Option (List (Ky × D))
  | [] => some []
  | .tup [k, v] :: ds => k.key?.bind fun q => (pairs? ds).map fun r => (q, v) :: r
  | _ :: _ => none
def dMerge {κ : Type} [DecidableEq κ] : List (κ × D) → List (κ × D) → List (κ × D)
  | acc, [] => acc
  | acc, (k, v) :: r => dMerge (dSet acc k v) r
def opDictP : List D → Option Rv
  | [.lst ds] => (pairs? ds).map fun kvs => .new (.dct (dMerge [] kvs))
  | _ => none
/-- without doubles -/
def dedupL {κ : Type} [DecidableEq κ] : List κ → List κ
  | [] => []
  | x :: r => if x ∈ r then dedupL r else x :: dedupL r
def strTups? : List D → Option (List (List Str))
  | [] => some []
  | .tup ds :: r => (strs? ds).bind fun k => (strTups? r).map fun ks => k :: ks
  | _ :: _ => none
def seqOf? : D → Option (List D)
  | .lst ds => some ds
  | .tup ds => some ds
  | _ => none
/-- how many differ -/
def opLenSet (d : D) : Option Rv := (seqOf? d).bind fun ds => match strs? ds with
  | some xs => if xs.length ≤ 1000 then some (.dat (.int (dedupL xs).length)) else none
  | none => (match strTups? ds with
    | some ks => if ks.length ≤ 4 then some (.dat (.int (dedupL ks).length)) else none
    | none => none)
def strLe (x y : Str) : Bool := !strLt y x
def opSorted : List D → Option Rv
  | [.lst ds] => if ds.length < 64 then (match ints? ds with
    | some ns => some (.new (.lst ((ns.mergeSort fun a b => decide (a ≤ b)).map .int)))
    | none => (strs? ds).map fun xs => .new (.lst ((xs.mergeSort strLe).map .str))) else none
  | _ => none
def msIf (t : MT) (a b : MS) : MS := fun sl => (t sl).sbind fun c sl1 => if c = true then a sl1 else b sl1
/-- x, y = a, b with plain names: the values are made, then stored -/
def parSlot : Rv → Option Slot
  | .dat d => some (.val d)
  | .new d => some (.own d)
  | .slot _ => none
def msPar (i j : Nat) (a b : ME) : MS := fun sl => (a sl).sbind fun ra sl1 => (b sl1).sbind fun rb sl2 => match parSlot ra, parSlot rb with
  | some s, some t => .nx ((sl2.set i s).set j t)
  | _, _ => .bad
def msRet (a : ME) : MS := fun sl => (a sl).sbind fun r sl1 => match r with
  | .dat d => .rt d false
  | .new d => .rt d true
  | .slot i => (match sl1[i]? with
    | some (.val d) => .rt d false
    | some (.own d) => .rt d true
    | _ => .bad)
def msRetN : MS := fun _ => .rt .non false
def msRaise (c : Str) : MS := fun sl => .exc c sl
def msPass : MS := fun sl => .nx sl
def msBreak : MS := fun sl => .bk sl
def msCont : MS := fun sl => .ct sl

def forLoop (dead : List Nat) (g : MG) (b : MS) : List D → Sl → SOut
  | [], sl => .nx sl
  | x :: xs, sl => match g x sl with
    | none => .bad
    | some sl1 => (match b sl1 with
      | .nx sl2 => forLoop dead g b xs (wipeSl dead sl2)
      | .ct sl2 => forLoop dead g b xs (wipeSl dead sl2)
      | .bk sl2 => .nx (wipeSl dead sl2)
      | o => o)
/-- for g in src: b; dead: slots that nothing behind a turn reads -/
def msFor (dead : List Nat) (src : MI) (g : MG) (b : MS) : MS := fun sl => match src sl with
  | .ok items sl1 => forLoop dead g b items (wipeSl dead sl1)
  | .exc c sl1 => .exc c sl1
  | .bad => .bad
def whileLoop (dead : List Nat) (t : MT) (b : MS) : Nat → Sl → SOut
  | 0, _ => .bad
  | n + 1, sl => match t sl with
    | .ok true sl1 => (match b sl1 with
      | .nx sl2 => whileLoop dead t b n (wipeSl dead sl2)
      | .ct sl2 => whileLoop dead t b n (wipeSl dead sl2)
      | .bk sl2 => .nx (wipeSl dead sl2)
      | o => o)
    | .ok false sl1 => .nx sl1
    | .exc c sl1 => .exc c sl1
    | .bad => .bad
def msWhile (dead : List Nat) (n : Nat) (t : MT) (b : MS) : MS := fun sl => whileLoop dead t b n (wipeSl dead sl)

/-- a def's body at its arguments; n: how many names it has -/
def runFn (n : Nat) (b : MS) : Fn := fun as => match b (as.map Slot.ofArg ++ List.replicate (n - as.length) .no) with
  | .nx _ => .ret .non false
  | .rt d fr => .ret d fr
  | .exc c _ => .exc c
  | _ => .bad
end DL
end
section
set_option linter.all false
set_option maxRecDepth 100000
set_option maxHeartbeats 4000000
set_option autoImplicit false
namespace DL
open PySem L2

/-! ### data in an abstract heap -/
/-- an exception object of the own class c -/
def ExnO (K : PySem.W.Frag) (a : Addr) (c : Str) : HO := .ext fun h => ∃ oe : Obj, h.get? a = some oe ∧ Zc (.ref (He.ga K c)) none oe ∧ ∃ vs, oe.data = .fields vs
mutual
def Rep (K : PySem.W.Frag) (F : Hp) : D → V → Prop
  | .non, v => v = .non
  | .bl b, v => v = .bl b
  | .int i, v => v = .int i
  | .str x, v => v = .str x
  | .tup ds, v => ds.length ≤ sizeLine ∧ ∃ a vs, v = .ref a ∧ F a = some (.tup vs) ∧ Reps K F ds vs
  | .lst ds, v => ds.length ≤ sizeLine ∧ ∃ a vs, v = .ref a ∧ F a = some (.lst vs) ∧ Reps K F ds vs
  | .dct kvs, v => ∃ a ws, v = .ref a ∧ F a = some (.dK ws) ∧ RepK K F kvs ws
  | .dctT kvs, v => ∃ a ws, v = .ref a ∧ F a = some (.dT ws) ∧ RepT K F kvs ws
  | .exn c, v => ∃ a, v = .ref a ∧ F a = some (ExnO K a c)
  | .scr ns, v => ns.length ≤ sizeLine ∧ ∃ a, v = .ref a ∧ SqL K F a (ns.map V.int)
def Reps (K : PySem.W.Frag) (F : Hp) : List D → List V → Prop
  | [], vs => vs = []
  | d :: ds, vs => ∃ v ws, vs = v :: ws ∧ Rep K F d v ∧ Reps K F ds ws
def RepK (K : PySem.W.Frag) (F : Hp) : List (Ky × D) → List (Key × V) → Prop
  | [], ws => ws = []
  | (k, d) :: r, ws => ∃ v ws', ws = (k, v) :: ws' ∧ Rep K F d v ∧ RepK K F r ws'
def RepT (K : PySem.W.Frag) (F : Hp) : List (List Ky × D) → List (List Key × V) → Prop
  | [], ws => ws = []
  | (k, d) :: r, ws => ∃ v ws', ws = (k, v) :: ws' ∧ Rep K F d v ∧ RepT K F r ws'
end
section
variable {K : PySem.W.Frag} {F F' : Hp}
theorem sqL_mono (e : Same F F') {a : Addr} {xs : List V} (h : SqL K F a xs) : SqL K F' a xs := e.seq h
mutual
theorem Rep.mono (e : Same F F') : ∀ (d : D) (v : V), Rep K F d v → Rep K F' d v
  | .non, _, h => h
  | .bl _, _, h => h
  | .int _, _, h => h
  | .str _, _, h => h
  | .tup ds, v, h => by
    simp only [Rep] at h ⊢
    obtain ⟨z, a, vs, e1, e2, r⟩ := h
    exact ⟨z, a, vs, e1, e _ _ e2, Reps.mono e ds vs r⟩
  | .lst ds, v, h => by
    simp only [Rep] at h ⊢
    obtain ⟨z, a, vs, e1, e2, r⟩ := h
    exact ⟨z, a, vs, e1, e _ _ e2, Reps.mono e ds vs r⟩
  | .dct kvs, v, h => by
    simp only [Rep] at h ⊢
    obtain ⟨a, ws, e1, e2, r⟩ := h
    exact ⟨a, ws, e1, e _ _ e2, RepK.mono e kvs ws r⟩
  | .dctT kvs, v, h => by
    simp only [Rep] at h ⊢
    obtain ⟨a, ws, e1, e2, r⟩ := h
    exact ⟨a, ws, e1, e _ _ e2, RepT.mono e kvs ws r⟩
  | .exn c, v, h => by
    simp only [Rep] at h ⊢
    obtain ⟨a, e1, e2⟩ := h
    exact ⟨a, e1, e _ _ e2⟩
  | .scr ns, v, h => by
    simp only [Rep] at h ⊢
    obtain ⟨z, a, e1, e2⟩ := h
    exact ⟨z, a, e1, e.seq e2⟩
theorem Reps.mono (e : Same F F') : ∀ (ds : List D) (vs : List V), Reps K F ds vs → Reps K F' ds vs
  | [], _, h => h
  | d :: ds, vs, h => by
    simp only [Reps] at h ⊢
    obtain ⟨v, ws, e1, r1, r2⟩ := h
    exact ⟨v, ws, e1, Rep.mono e d v r1, Reps.mono e ds ws r2⟩
theorem RepK.mono (e : Same F F') : ∀ (ds : List (Ky × D)) (vs : List (Key × V)), RepK K F ds vs → RepK K F' ds vs
  | [], _, h => h
  | (k, d) :: ds, vs, h => by
    simp only [RepK] at h ⊢
    obtain ⟨v, ws, e1, r1, r2⟩ := h
    exact ⟨v, ws, e1, Rep.mono e d v r1, RepK.mono e ds ws r2⟩
theorem RepT.mono (e : Same F F') : ∀ (ds : List (List Ky × D)) (vs : List (List Key × V)), RepT K F ds vs → RepT K F' ds vs
  | [], _, h => h
  | (k, d) :: ds, vs, h => by
    simp only [RepT] at h ⊢
    obtain ⟨v, ws, e1, r1, r2⟩ := h
    exact ⟨v, ws, e1, Rep.mono e d v r1, RepT.mono e ds ws r2⟩
end
theorem Reps.length : ∀ {ds : List D} {vs : List V}, Reps K F ds vs → vs.length = ds.length
  | [], vs, h => by simp only [Reps] at h; subst h; rfl
  | d :: ds, vs, h => by
    simp only [Reps] at h
    obtain ⟨v, ws, e1, _, r2⟩ := h
    subst e1
    simp only [List.length_cons, Reps.length r2]
theorem Reps.append : ∀ {ds es : List D} {vs ws : List V}, Reps K F ds vs → Reps K F es ws → Reps K F (ds ++ es) (vs ++ ws)
  | [], _, _, _, h, q => by simp only [Reps] at h; subst h; exact q
  | d :: ds, es, vs, ws, h, q => by
    simp only [Reps] at h
    obtain ⟨v, vs', e1, r1, r2⟩ := h
    subst e1
    exact ⟨v, vs' ++ ws, rfl, r1, Reps.append r2 q⟩
theorem Reps.get : ∀ {ds : List D} {vs : List V} {i : Nat} {d : D}, Reps K F ds vs → ds[i]? = some d → ∃ v, vs[i]? = some v ∧ Rep K F d v
  | [], _, _, _, _, e => by simp at e
  | d :: ds, vs, 0, d', h, e => by
    simp only [Reps] at h
    obtain ⟨v, ws, e1, r1, _⟩ := h
    simp at e
    subst e e1
    exact ⟨v, rfl, r1⟩
  | d :: ds, vs, i + 1, d', h, e => by
    simp only [Reps] at h
    obtain ⟨v, ws, e1, _, r2⟩ := h
    subst e1
    obtain ⟨u, h1, h2⟩ := Reps.get (i := i) r2 (by simpa using e)
    exact ⟨u, by simpa using h1, h2⟩
theorem Reps.getV : ∀ {ds : List D} {vs : List V} {i : Nat} {v : V}, Reps K F ds vs → vs[i]? = some v → ∃ d, ds[i]? = some d ∧ Rep K F d v
  | [], vs, i, v, h, e => by simp only [Reps] at h; subst h; simp at e
  | d :: ds, vs, 0, d', h, e => by
    simp only [Reps] at h
    obtain ⟨v, ws, e1, r1, _⟩ := h
    subst e1
    simp at e
    subst e
    exact ⟨d, rfl, r1⟩
  | d :: ds, vs, i + 1, d', h, e => by
    simp only [Reps] at h
    obtain ⟨v, ws, e1, _, r2⟩ := h
    subst e1
    obtain ⟨u, h1, h2⟩ := Reps.getV (i := i) r2 (by simpa using e)
    exact ⟨u, by simpa using h1, h2⟩
end

/-- the object at a, read in H, its parts in F -/
def OwnAt (K : PySem.W.Frag) (H F : Hp) (a : Addr) : D → Prop
  | .lst ds => ds.length ≤ sizeLine ∧ ∃ vs, H a = some (.lst vs) ∧ Reps K F ds vs
  | .dct kvs => ∃ ws, H a = some (.dK ws) ∧ RepK K F kvs ws
  | .dctT kvs => ∃ ws, H a = some (.dT ws) ∧ RepT K F kvs ws
  | _ => False
theorem OwnAt.there {K : PySem.W.Frag} {H F : Hp} {a : Addr} {d : D} (h : OwnAt K H F a d) : ∃ o, H a = some o ∧ (∀ ps, o ≠ .tbl ps) ∧ (∀ x, o ≠ .tup x) ∧ ∀ φ, o ≠ .ext φ := by
  cases d with
  | lst ds => obtain ⟨_, vs, e, _⟩ := h; exact ⟨_, e, (fun _ z => nomatch z), (fun _ z => nomatch z), (fun _ z => nomatch z)⟩
  | dct ds => obtain ⟨vs, e, _⟩ := h; exact ⟨_, e, (fun _ z => nomatch z), (fun _ z => nomatch z), (fun _ z => nomatch z)⟩
  | dctT ds => obtain ⟨vs, e, _⟩ := h; exact ⟨_, e, (fun _ z => nomatch z), (fun _ z => nomatch z), (fun _ z => nomatch z)⟩
  | _ => exact (show False from h).elim
theorem OwnAt.move {K : PySem.W.Frag} {H F H' F' : Hp} {a : Addr} {d : D} (h : OwnAt K H F a d) (e : H' a = H a) (s : Same F F') : OwnAt K H' F' a d := by
  cases d with
  | lst ds => obtain ⟨z, vs, q, r⟩ := h; exact ⟨z, vs, e.trans q, Reps.mono s _ _ r⟩
  | dct ds => obtain ⟨vs, q, r⟩ := h; exact ⟨vs, e.trans q, RepK.mono s _ _ r⟩
  | dctT ds => obtain ⟨vs, q, r⟩ := h; exact ⟨vs, e.trans q, RepT.mono s _ _ r⟩
  | _ => exact (show False from h).elim
theorem OwnAt.rep {K : PySem.W.Frag} {F : Hp} {a : Addr} {d : D} (h : OwnAt K F F a d) : Rep K F d (.ref a) := by
  cases d with
  | lst ds => obtain ⟨z, vs, q, r⟩ := h; exact ⟨z, a, vs, rfl, q, r⟩
  | dct ds => obtain ⟨vs, q, r⟩ := h; exact ⟨a, vs, rfl, q, r⟩
  | dctT ds => obtain ⟨vs, q, r⟩ := h; exact ⟨a, vs, rfl, q, r⟩
  | _ => exact (show False from h).elim

/-- the heap and its frozen part grow -/
structure Grow (F H F' H' : Hp) : Prop where
  ext : ∀ a o, H a = some o → H' a = some o ∨ ∃ ps qs, o = .tbl ps ∧ H' a = some (.tbl qs)
  fsub : Same F F'
  sub : Same F' H'
  new : ∀ a, F a = none → F' a ≠ none → H a = none ∨ ∃ φ, H a = some (.ext φ)
theorem Grow.refl {F H : Hp} (s : Same F H) : Grow F H F H := ⟨fun _ _ e => .inl e, Same.refl F, s, fun _ e n => absurd e n⟩
theorem Grow.isN {F H F' H' : Hp} (g : Grow F H F' H') {a : Addr} (e : H' a = none) : H a = none := by
  cases q : H a with
  | none => rfl
  | some o =>
    rcases g.ext a o q with z | ⟨_, _, _, z⟩ <;> rw [e] at z <;> cases z
theorem Grow.trans {F0 H0 F1 H1 F2 H2 : Hp} (g : Grow F0 H0 F1 H1) (k : Grow F1 H1 F2 H2) : Grow F0 H0 F2 H2 := by
  refine ⟨fun a o e => ?_, g.fsub.trans k.fsub, k.sub, fun a e n => ?_⟩
  · rcases g.ext a o e with z | ⟨ps, qs, e1, z⟩
    · rcases k.ext a o z with y | ⟨ps, qs, e2, y⟩
      · exact .inl y
      · exact .inr ⟨ps, qs, e2, y⟩
    · rcases k.ext a _ z with y | ⟨ps', qs', e2, y⟩
      · exact .inr ⟨ps, qs, e1, y⟩
      · exact .inr ⟨ps, qs', e1, y⟩
  · cases q : F1 a with
    | none =>
      rcases k.new a q n with h | ⟨φ, h⟩
      · exact .inl (g.isN h)
      · cases c : H0 a with
        | none => exact .inl rfl
        | some o =>
          rcases g.ext a o c with z | ⟨ps, qs, _, z⟩
          · rw [h] at z; cases z; exact .inr ⟨φ, rfl⟩
          · rw [h] at z; cases z
    | some o => exact g.new a e (by rw [q]; exact fun z => nomatch z)
/-- a new object that is not frozen -/
theorem Grow.alloc {F H : Hp} (s : Same F H) {p : Addr} (o : HO) (hp : H p = none) : Grow F H F (upd H p o) :=
  ⟨fun a u e => .inl (by rw [upd_ne (ne_of_none e hp)]; exact e), Same.refl F, fun a u e => by rw [upd_ne (ne_of_none (s _ _ e) hp)]; exact s _ _ e, fun _ e n => absurd e n⟩
/-- a new object, frozen at once -/
theorem Grow.allocF {F H : Hp} (s : Same F H) {p : Addr} (o : HO) (hp : H p = none) : Grow F H (upd F p o) (upd H p o) := by
  refine ⟨fun a u e => .inl (by rw [upd_ne (ne_of_none e hp)]; exact e), fun a u e => ?_, fun a u e => ?_, fun a e n => ?_⟩
  · rw [upd_ne (ne_of_none (s _ _ e) hp)]; exact e
  · by_cases z : a = p
    · subst z; rw [upd_same] at e ⊢; exact e
    · rw [upd_ne z] at e ⊢; exact s _ _ e
  · by_cases z : a = p
    · rw [z]; exact .inl hp
    · rw [upd_ne z] at n; exact absurd e n

/-- what a whole program knows -/
structure Gx where
  K : PySem.W.Frag
  T : List (Addr × Str)
  TP : Hp → Addr → Res → Prop
  LO : Hp → Nat → Addr → Prop
  tp : ∀ F F' f r, Same F F' → TP F f r → TP F' f r
  lo : ∀ F F' i f, Same F F' → LO F i f → LO F' i f
def SlotOk (G : Gx) (H0 H F : Hp) : Slot → Option (Option V) → Prop
  | .no, _ => True
  | .val d, o => ∃ v, o = some (some v) ∧ Rep G.K F d v
  | .own d, o => ∃ a, o = some (some (.ref a)) ∧ F a = none ∧ H0 a = none ∧ OwnAt G.K H F a d
  | .lck d, o => ∃ a, o = some (some (.ref a)) ∧ F a = none ∧ H0 a = none ∧ OwnAt G.K H F a d
  | .thk r, o => ∃ f, o = some (some (.ref f)) ∧ G.TP F f r
  | .thks rs, o => ∃ a fs, o = some (some (.ref a)) ∧ rs.length ≤ sizeLine ∧ F a = some (.lst (fs.map V.ref)) ∧ Paired (G.TP F) fs rs
  | .lams ids, o => ∃ a fs, o = some (some (.ref a)) ∧ ids.length ≤ sizeLine ∧ F a = none ∧ H0 a = none ∧ H a = some (.lst (fs.map V.ref)) ∧ Paired (G.LO F) ids fs
theorem SlotOk.mine {G : Gx} {H0 H F : Hp} {s : Slot} {o : Option (Option V)} (h : SlotOk G H0 H F s o) (m : s.mine = true) : ∃ a u, o = some (some (.ref a)) ∧ F a = none ∧ H0 a = none ∧ H a = some u ∧ (∀ ps, u ≠ .tbl ps) ∧ (∀ x, u ≠ .tup x) ∧ ∀ φ, u ≠ .ext φ := by
  cases s with
  | own d => obtain ⟨a, e, f, z, w⟩ := h; obtain ⟨u, q, n, t⟩ := w.there; exact ⟨a, u, e, f, z, q, n, t⟩
  | lck d => obtain ⟨a, e, f, z, w⟩ := h; obtain ⟨u, q, n, t⟩ := w.there; exact ⟨a, u, e, f, z, q, n, t⟩
  | lams ids => obtain ⟨a, fs, e, _, f, z, q, _⟩ := h; exact ⟨a, _, e, f, z, q, (fun _ z => nomatch z), (fun _ z => nomatch z), (fun _ z => nomatch z)⟩
  | _ => cases m
theorem Paired.imp {α β : Type} {P Q : α → β → Prop} (h : ∀ a b, P a b → Q a b) : ∀ {l : List α} {m : List β}, Paired P l m → Paired Q l m
  | _, _, .nil => .nil
  | _, _, .cons r t => .cons (h _ _ r) (Paired.imp h t)
/-- a slot stays, where the objects that it owns stay -/
theorem SlotOk.move {G : Gx} {H0 H F H' F' : Hp} {s : Slot} {o : Option (Option V)} (h : SlotOk G H0 H F s o) (sF : Same F F')
    (k : s.mine = true → ∀ a, o = some (some (.ref a)) → F a = none → H a ≠ none → H' a = H a ∧ F' a = none) : SlotOk G H0 H' F' s o := by
  cases s with
  | no => trivial
  | val d => obtain ⟨v, e, r⟩ := h; exact ⟨v, e, r.mono sF⟩
  | own d =>
    obtain ⟨a, e, f, z, w⟩ := h
    obtain ⟨u, q, _⟩ := w.there
    obtain ⟨k1, k2⟩ := k rfl a e f (by rw [q]; exact fun z => nomatch z)
    exact ⟨a, e, k2, z, w.move k1 sF⟩
  | lck d =>
    obtain ⟨a, e, f, z, w⟩ := h
    obtain ⟨u, q, _⟩ := w.there
    obtain ⟨k1, k2⟩ := k rfl a e f (by rw [q]; exact fun z => nomatch z)
    exact ⟨a, e, k2, z, w.move k1 sF⟩
  | thk r => obtain ⟨f, e, t⟩ := h; exact ⟨f, e, G.tp _ _ _ _ sF t⟩
  | thks rs => obtain ⟨a, fs, e, z, q, p⟩ := h; exact ⟨a, fs, e, z, sF _ _ q, Paired.imp (fun _ _ t => G.tp _ _ _ _ sF t) p⟩
  | lams ids =>
    obtain ⟨a, fs, e, z, f, y, q, p⟩ := h
    obtain ⟨k1, k2⟩ := k rfl a e f (by rw [q]; exact fun z => nomatch z)
    exact ⟨a, fs, e, z, k2, y, k1.trans q, Paired.imp (fun _ _ t => G.lo _ _ _ _ sF t) p⟩

/-- the frame's state: (F0, H0) at the entry -/
structure SR (G : Gx) (H0 F0 : Hp) (sl : Sl) (σ : St) (H F : Hp) : Prop where
  grow : Grow F0 H0 F H
  len : sl.length = σ.length
  rel : ∀ (i : Nat) (s : Slot), sl[i]? = some s → SlotOk G H0 H F s (σ[i]?)
  sep : ∀ (i j : Nat) (a : Addr) (si sj : Slot), i ≠ j → sl[i]? = some si → sl[j]? = some sj → si.mine = true → sj.mine = true → σ[i]? = some (some (.ref a)) → σ[j]? = some (some (.ref a)) → False
  tabs : LamX.Tabs G.T H
  nt : ∀ p ∈ G.T, F p.1 = none
section
variable {G : Gx} {H0 F0 H F H' F' : Hp} {sl : Sl} {σ : St}
/-- all around grows -/
theorem SR.to (S : SR G H0 F0 sl σ H F) (g : Grow F H F' H') (ht : LamX.Tabs G.T H') : SR G H0 F0 sl σ H' F' := by
  refine ⟨S.grow.trans g, S.len, fun i s e => (S.rel i s e).move g.fsub fun m a ea fa na => ?_, S.sep, ht, fun p hp => ?_⟩
  rotate_left
  · cases q : F' p.1 with
    | none => rfl
    | some o =>
      obtain ⟨ps, e, _⟩ := S.tabs p hp
      rcases g.new p.1 (S.nt p hp) (by rw [q]; exact fun z => nomatch z) with h | ⟨φ, h⟩ <;> rw [e] at h <;> cases h
  obtain ⟨a', u, e1, f1, z1, q1, n1, _, n2⟩ := (S.rel i s e).mine m
  rw [ea] at e1
  cases e1
  refine ⟨?_, ?_⟩
  · rcases g.ext a u q1 with z | ⟨ps, qs, z, _⟩
    · rw [z, q1]
    · exact absurd z (n1 ps)
  · cases q : F' a with
    | none => rfl
    | some o =>
      rcases g.new a f1 (by rw [q]; exact fun z => nomatch z) with h | ⟨φ, h⟩
      · exact absurd h na
      · rw [q1] at h; exact absurd (Option.some.inj h) (n2 φ)
theorem Tabs_alloc {T : List (Addr × Str)} {p : Addr} {o : HO} (t : LamX.Tabs T H) (hp : H p = none) : LamX.Tabs T (upd H p o) :=
  t.ext fun b u e => by rw [upd_ne (ne_of_none e hp)]; exact e
theorem SR.sub (S : SR G H0 F0 sl σ H F) : Same F H := S.grow.sub
/-- the entry's frozen part may be taken greater -/
theorem SR.rebase (S : SR G H0 F0 sl σ H F) : SR G H0 F sl σ H F :=
  ⟨⟨S.grow.ext, Same.refl F, S.grow.sub, fun _ e n => absurd e n⟩, S.len, S.rel, S.sep, S.tabs, S.nt⟩
theorem SR.unbase {F1 : Hp} {sl1 sl2 : Sl} {σ1 σ2 : St} {H1 : Hp} (S : SR G H0 F0 sl1 σ1 H1 F1) (S2 : SR G H0 F1 sl2 σ2 H F) : SR G H0 F0 sl2 σ2 H F := by
  refine ⟨⟨S2.grow.ext, S.grow.fsub.trans S2.grow.fsub, S2.grow.sub, fun a e n => ?_⟩, S2.len, S2.rel, S2.sep, S2.tabs, S2.nt⟩
  cases q : F1 a with
  | none => exact S2.grow.new a q n
  | some o => exact S.grow.new a e (by rw [q]; exact fun z => nomatch z)
/-- F with the object that stands at a in H -/
def frzAt (F H : Hp) (a : Addr) : Hp := fun b => if b = a then H a else F b
theorem frzAt_same (s : Same F H) {a : Addr} (f : F a = none) : Same F (frzAt F H a) := fun b o e => by
  unfold frzAt
  by_cases z : b = a
  · rw [z, f] at e; cases e
  · rw [if_neg z]; exact e
theorem frzAt_sub (s : Same F H) {a : Addr} : Same (frzAt F H a) H := fun b o e => by
  unfold frzAt at e
  by_cases z : b = a
  · rw [if_pos z] at e; rw [z]; exact e
  · rw [if_neg z] at e; exact s _ _ e
theorem OwnAt.frozen {K : PySem.W.Frag} {a : Addr} {d : D} (w : OwnAt K H F a d) (s : Same F H) (f : F a = none) : Rep K (frzAt F H a) d (.ref a) :=
  OwnAt.rep (w.move (show frzAt F H a a = H a by unfold frzAt; rw [if_pos rfl]) (frzAt_same s f))
/-- an own object is frozen: its slot tells a value now -/
theorem SR.freeze (S : SR G H0 F0 sl σ H F) {i : Nat} {d : D} (h : sl[i]? = some (.own d)) :
    ∃ a F', σ[i]? = some (some (.ref a)) ∧ Same F F' ∧ Rep G.K F' d (.ref a) ∧ SR G H0 F0 (sl.set i (.val d)) σ H F' := by
  obtain ⟨a, e, f, z, w⟩ := S.rel i _ h
  have hi : i < sl.length := (List.getElem?_eq_some_iff.mp h).1
  refine ⟨a, frzAt F H a, e, frzAt_same S.sub f, w.frozen S.sub f, ⟨⟨S.grow.ext, S.grow.fsub.trans (frzAt_same S.sub f), frzAt_sub S.sub, fun b e1 n => ?_⟩, by rw [List.length_set]; exact S.len, fun j s ej => ?_, fun j k b sj sk njk ej ek mj mk bj bk => ?_, S.tabs, fun p hp => ?_⟩⟩
  · unfold frzAt at n
    by_cases q : b = a
    · rw [q]; exact .inl z
    · rw [if_neg q] at n; exact S.grow.new b e1 n
  · by_cases q : j = i
    · subst q
      rw [List.getElem?_set_self hi] at ej
      cases ej
      exact ⟨_, e, w.frozen S.sub f⟩
    · rw [List.getElem?_set_ne (Ne.symm q)] at ej
      refine (S.rel j s ej).move (frzAt_same S.sub f) fun m b eb fb _ => ⟨rfl, ?_⟩
      unfold frzAt
      by_cases y : b = a
      · subst y
        exact (S.sep j i b s _ q ej h m rfl eb e).elim
      · rw [if_neg y]; exact fb
  · have aj : sl[j]? = some sj := by
      by_cases q : j = i
      · subst q
        rw [List.getElem?_set_self hi] at ej
        cases ej
        cases mj
      · rwa [List.getElem?_set_ne (Ne.symm q)] at ej
    have ak : sl[k]? = some sk := by
      by_cases q : k = i
      · subst q
        rw [List.getElem?_set_self hi] at ek
        cases ek
        cases mk
      · rwa [List.getElem?_set_ne (Ne.symm q)] at ek
    exact S.sep j k b sj sk njk aj ak mj mk bj bk
  · unfold frzAt
    by_cases y : p.1 = a
    · obtain ⟨ps, e1, _⟩ := S.tabs p hp
      obtain ⟨u, q1, n1, _⟩ := w.there
      rw [y, q1] at e1
      exact absurd (Option.some.inj e1) (n1 ps)
    · rw [if_neg y]; exact S.nt p hp
end
end DL
end
section
set_option linter.all false
set_option maxRecDepth 100000
set_option maxHeartbeats 4000000
set_option autoImplicit false
namespace DL
open PySem L2

section
variable {G : Gx} {H0 F0 H F H' F' : Hp} {sl : Sl} {σ : L2.St}
/-- a slot is stored that owns nothing -/
theorem SR.put (S : SR G H0 F0 sl σ H F) {i : Nat} {s : Slot} {v : V} (h : SlotOk G H0 H F s (some (some v))) (m : s.mine = false) : SR G H0 F0 (sl.set i s) (σ.set i (some v)) H F := by
  refine ⟨S.grow, by rw [List.length_set, List.length_set]; exact S.len, fun j t ej => ?_, fun j k b sj sk njk ej ek mj mk bj bk => ?_, S.tabs, S.nt⟩
  · by_cases q : i = j
    · subst q
      have hi : i < sl.length := by
        have := (List.getElem?_eq_some_iff.mp ej).1
        rwa [List.length_set] at this
      rw [List.getElem?_set_self hi] at ej
      cases ej
      rw [List.getElem?_set_self (by rw [← S.len]; exact hi)]
      exact h
    · rw [List.getElem?_set_ne q] at ej
      rw [List.getElem?_set_ne q]
      exact S.rel j t ej
  · have go : ∀ {x : Nat} {t : Slot}, (sl.set i s)[x]? = some t → t.mine = true → i ≠ x ∧ sl[x]? = some t := fun {x t} e mt => by
      by_cases q : i = x
      · subst q
        have hi : i < sl.length := by
          have := (List.getElem?_eq_some_iff.mp e).1
          rwa [List.length_set] at this
        rw [List.getElem?_set_self hi] at e
        cases e
        rw [m] at mt
        cases mt
      · rw [List.getElem?_set_ne q] at e
        exact ⟨q, e⟩
    obtain ⟨n1, a1⟩ := go ej mj
    obtain ⟨n2, a2⟩ := go ek mk
    rw [List.getElem?_set_ne n1] at bj
    rw [List.getElem?_set_ne n2] at bk
    exact S.sep j k b sj sk njk a1 a2 mj mk bj bk
/-- a new own object is stored -/
theorem SR.putOwn (S : SR G H0 F0 sl σ H F) {i : Nat} {s : Slot} {a : Addr} (h : SlotOk G H0 H F s (some (some (.ref a))))
    (ap : ∀ (j : Nat) (t : Slot), sl[j]? = some t → t.mine = true → σ[j]? ≠ some (some (.ref a))) : SR G H0 F0 (sl.set i s) (σ.set i (some (.ref a))) H F := by
  refine ⟨S.grow, by rw [List.length_set, List.length_set]; exact S.len, fun j t ej => ?_, fun j k b sj sk njk ej ek mj mk bj bk => ?_, S.tabs, S.nt⟩
  · by_cases q : i = j
    · subst q
      have hi : i < sl.length := by
        have := (List.getElem?_eq_some_iff.mp ej).1
        rwa [List.length_set] at this
      rw [List.getElem?_set_self hi] at ej
      cases ej
      rw [List.getElem?_set_self (by rw [← S.len]; exact hi)]
      exact h
    · rw [List.getElem?_set_ne q] at ej
      rw [List.getElem?_set_ne q]
      exact S.rel j t ej
  · have at_ : ∀ {x : Nat} {t : Slot} {b : Addr}, (sl.set i s)[x]? = some t → (σ.set i (some (.ref a)))[x]? = some (some (.ref b)) → (i = x ∧ b = a) ∨ (i ≠ x ∧ sl[x]? = some t ∧ σ[x]? = some (some (.ref b))) := fun {x t b} e e2 => by
      by_cases q : i = x
      · subst q
        have hi : i < sl.length := by
          have := (List.getElem?_eq_some_iff.mp e).1
          rwa [List.length_set] at this
        rw [List.getElem?_set_self (by rw [← S.len]; exact hi)] at e2
        cases e2
        exact .inl ⟨rfl, rfl⟩
      · rw [List.getElem?_set_ne q] at e e2
        exact .inr ⟨q, e, e2⟩
    rcases at_ ej bj with ⟨q1, r1⟩ | ⟨q1, e1, r1⟩ <;> rcases at_ ek bk with ⟨q2, r2⟩ | ⟨q2, e2, r2⟩
    · exact njk (q1.symm.trans q2)
    · exact ap k sk e2 mk (by rw [r2, r1])
    · exact ap j sj e1 mj (by rw [r1, r2])
    · exact S.sep j k b sj sk njk e1 e2 mj mk r1 r2
/-- a slot is forgotten -/
theorem SR.drop (S : SR G H0 F0 sl σ H F) (i : Nat) : SR G H0 F0 (sl.set i .no) σ H F := by
  refine ⟨S.grow, by rw [List.length_set]; exact S.len, fun j t ej => ?_, fun j k b sj sk njk ej ek mj mk bj bk => ?_, S.tabs, S.nt⟩
  · by_cases q : i = j
    · subst q
      have hi : i < sl.length := by
        have := (List.getElem?_eq_some_iff.mp ej).1
        rwa [List.length_set] at this
      rw [List.getElem?_set_self hi] at ej
      cases ej
      trivial
    · rw [List.getElem?_set_ne q] at ej
      exact S.rel j t ej
  · have go : ∀ {x : Nat} {t : Slot}, (sl.set i .no)[x]? = some t → t.mine = true → sl[x]? = some t := fun {x t} e mt => by
      by_cases q : i = x
      · subst q
        have hi : i < sl.length := by
          have := (List.getElem?_eq_some_iff.mp e).1
          rwa [List.length_set] at this
        rw [List.getElem?_set_self hi] at e
        cases e
        cases mt
      · rwa [List.getElem?_set_ne q] at e
    exact S.sep j k b sj sk njk (go ej mj) (go ek mk) mj mk bj bk
theorem SR.wipe (S : SR G H0 F0 sl σ H F) : ∀ is : List Nat, SR G H0 F0 (wipeSl is sl) σ H F
  | [] => S
  | i :: is => (SR.wipe S is).drop i
end

/-! ### readings -/
/-- a value of an expression -/
def RvOk (G : Gx) (H0 H F : Hp) (sl : Sl) (σ : L2.St) : Rv → V → Prop
  | .dat d, v => Rep G.K F d v
  | .new d, v => ∃ a, v = .ref a ∧ F a = none ∧ H0 a = none ∧ OwnAt G.K H F a d ∧ ∀ (j : Nat) (t : Slot), sl[j]? = some t → t.mine = true → σ[j]? ≠ some (some (.ref a))
  | .slot i, v => σ[i]? = some (some v)
/-- the exceptional way -/
def XPost (G : Gx) (W : WX) (H0 F0 F : Hp) (σ : L2.St) (c : Str) (sl : Sl) : Prop := ∀ H' F', SR G H0 F0 sl σ H' F' → Same F F' → W (.ref (He.ga G.K c)) none σ H'
/-- what is wanted of an outcome; F: the frozen part ahead -/
def EPost (G : Gx) (W : WX) (H0 F0 F : Hp) (σ : L2.St) (Q : VK) : EOut → Prop
  | .ok r sl => ∀ v H' F', SR G H0 F0 sl σ H' F' → Same F F' → RvOk G H0 H' F' sl σ r v → Q v H'
  | .exc c sl => XPost G W H0 F0 F σ c sl
  | .bad => False
def TEd (G : Gx) (W : WX) (m : ME) : TE := fun σ H Q => ∃ H0 F0 F sl, SR G H0 F0 sl σ H F ∧ EPost G W H0 F0 F σ Q (m sl)
def APost (G : Gx) (W : WX) (H0 F0 F : Hp) (σ : L2.St) (Q : List V → Hp → Prop) : AOut → Prop
  | .ok rs sl => ∀ vs H' F', SR G H0 F0 sl σ H' F' → Same F F' → Paired (RvOk G H0 H' F' sl σ) rs vs → Q vs H'
  | .exc c sl => XPost G W H0 F0 F σ c sl
  | .bad => False
def TAd (G : Gx) (W : WX) (m : MA) : TA := fun σ H Q => ∃ H0 F0 F sl, SR G H0 F0 sl σ H F ∧ APost G W H0 F0 F σ Q (m sl)
def TPost (G : Gx) (W : WX) (H0 F0 F : Hp) (σ : L2.St) (Q : Bool → Hp → Prop) : TOut → Prop
  | .ok b sl => ∀ H' F', SR G H0 F0 sl σ H' F' → Same F F' → Q b H'
  | .exc c sl => XPost G W H0 F0 F σ c sl
  | .bad => False
def TTd (G : Gx) (W : WX) (m : MT) : TT := fun σ H Q => ∃ H0 F0 F sl, SR G H0 F0 sl σ H F ∧ TPost G W H0 F0 F σ Q (m sl)
end DL
namespace L2
open PySem
theorem PE.mono {X : Cx} {e : Expr} {t t' : TE} (h : PE X e t) (i : ∀ σ H Q, t' σ H Q → t σ H Q) : PE X e t' := ⟨fun pins s σ H Q I q => h.run pins s σ H Q I (i σ H Q q)⟩
theorem PT.mono {X : Cx} {e : Expr} {t t' : TT} (h : PT X e t) (i : ∀ σ H Q, t' σ H Q → t σ H Q) : PT X e t' := ⟨fun pins s σ H Q I q => h.run pins s σ H Q I (i σ H Q q)⟩
theorem PA.mono {X : Cx} {e : List Expr} {t t' : TA} (h : PA X e t) (i : ∀ σ H Q, t' σ H Q → t σ H Q) : PA X e t' := ⟨fun pos pins s σ H Q I q => h.run pos pins s σ H Q I (i σ H Q q)⟩
theorem PS.mono {X : Cx} {e : Stmt} {t t' : TS} (h : PS X e t) (i : ∀ D σ H, t' D σ H → t D σ H) : PS X e t' := ⟨fun pins s σ H D I q => h.run pins s σ H D I (i D σ H q)⟩
theorem PSs.mono {X : Cx} {e : List Stmt} {t t' : TS} (h : PSs X e t) (i : ∀ D σ H, t' D σ H → t D σ H) : PSs X e t' := ⟨fun pins s σ H D I q => h.run pins s σ H D I (i D σ H q)⟩
theorem PI.mono {X : Cx} {tg e : Expr} {t t' : TI} (h : PI X tg e t) (i : ∀ σ H Q, t' σ H Q → t σ H Q) : PI X tg e t' := ⟨fun pins s σ H Q I q => h.run pins s σ H Q I (i σ H Q q)⟩
end L2
namespace DL
open PySem L2

/-- the judgements -/
abbrev DE (X : Cx) (G : Gx) (W : WX) (e : Expr) (m : ME) : Prop := PE X e (TEd G W m)
abbrev DA (X : Cx) (G : Gx) (W : WX) (es : List Expr) (m : MA) : Prop := PA X es (TAd G W m)
abbrev DT (X : Cx) (G : Gx) (W : WX) (e : Expr) (m : MT) : Prop := PT X e (TTd G W m)

section
variable {X : Cx} {G : Gx} {W : WX} {H0 F0 H F H1 F1 : Hp} {sl sl1 : Sl} {σ : L2.St}
theorem XPost.on {c : Str} (h : XPost G W H0 F0 F σ c sl) (s : Same F F1) : XPost G W H0 F0 F1 σ c sl := fun H' F' S s' => h H' F' S (s.trans s')
theorem EPost.on {Q : VK} {o : EOut} (h : EPost G W H0 F0 F σ Q o) (s : Same F F1) : EPost G W H0 F0 F1 σ Q o := by
  cases o with
  | ok r sl => exact fun v H' F' S s' => h v H' F' S (s.trans s')
  | exc c sl => exact XPost.on h s
  | bad => exact h
theorem APost.on {Q : List V → Hp → Prop} {o : AOut} (h : APost G W H0 F0 F σ Q o) (s : Same F F1) : APost G W H0 F0 F1 σ Q o := by
  cases o with
  | ok r sl => exact fun v H' F' S s' => h v H' F' S (s.trans s')
  | exc c sl => exact XPost.on h s
  | bad => exact h
theorem TPost.on {Q : Bool → Hp → Prop} {o : TOut} (h : TPost G W H0 F0 F σ Q o) (s : Same F F1) : TPost G W H0 F0 F1 σ Q o := by
  cases o with
  | ok r sl => exact fun H' F' S s' => h H' F' S (s.trans s')
  | exc c sl => exact XPost.on h s
  | bad => exact h

/-- a part m of an expression, then what is made of its value -/
theorem TEd.go {m : ME} {R : V → Hp → Prop} (S : SR G H0 F0 sl σ H F) (hx : ∀ c sl1, m sl = .exc c sl1 → XPost G W H0 F0 F σ c sl1) (hb : m sl ≠ .bad)
    (i : ∀ r sl1 v H1 F1, m sl = .ok r sl1 → SR G H0 F0 sl1 σ H1 F1 → Same F F1 → RvOk G H0 H1 F1 sl1 σ r v → R v H1) : TEd G W m σ H R := by
  refine ⟨H0, F0, F, sl, S, ?_⟩
  cases e : m sl with
  | ok r sl1 => exact fun v H1 F1 S1 s1 R1 => i r sl1 v H1 F1 e S1 s1 R1
  | exc c sl1 => exact hx c sl1 e
  | bad => exact (hb e).elim
theorem TEd.bind {m : ME} {k : Rv → Sl → EOut} {Q : VK} {R : V → Hp → Prop} (S : SR G H0 F0 sl σ H F) (h : EPost G W H0 F0 F σ Q ((m sl).bind k))
    (i : ∀ r sl1 v H1 F1, SR G H0 F0 sl1 σ H1 F1 → Same F F1 → RvOk G H0 H1 F1 sl1 σ r v → EPost G W H0 F0 F1 σ Q (k r sl1) → R v H1) : TEd G W m σ H R := by
  refine TEd.go S (fun c sl1 e => ?_) (fun e => ?_) fun r sl1 v H1 F1 e S1 s1 R1 => i r sl1 v H1 F1 S1 s1 R1 ?_
  · rw [e] at h; exact h
  · rw [e] at h; exact h
  · rw [e] at h; exact EPost.on h s1

/-! ### names, constants -/
theorem de_var {i : Nat} {e : Expr} (h : PE X e (tVar i)) : DE X G W e (mVar i) := by
  refine h.mono fun σ H Q ⟨H0, F0, F, sl, S, q⟩ => ?_
  unfold mVar at q
  cases e : sl[i]? with
  | none => rw [e] at q; exact q.elim
  | some s =>
    rw [e] at q
    have R := S.rel i s e
    cases s with
    | no => exact q.elim
    | val d =>
      obtain ⟨v, e1, r⟩ := R
      exact ⟨v, e1, q v H F S (Same.refl F) r⟩
    | own d =>
      obtain ⟨a, e1, _⟩ := R
      exact ⟨_, e1, q _ H F S (Same.refl F) e1⟩
    | lck d =>
      obtain ⟨a, e1, _⟩ := R
      exact ⟨_, e1, q _ H F S (Same.refl F) e1⟩
    | thk r =>
      obtain ⟨a, e1, _⟩ := R
      exact ⟨_, e1, q _ H F S (Same.refl F) e1⟩
    | thks rs =>
      obtain ⟨a, fs, e1, _⟩ := R
      exact ⟨_, e1, q _ H F S (Same.refl F) e1⟩
    | lams ids =>
      obtain ⟨a, fs, e1, _⟩ := R
      exact ⟨_, e1, q _ H F S (Same.refl F) e1⟩
theorem de_con {d : D} {v : V} {e : Expr} (h : PE X e (tC v)) (r : ∀ F, Rep G.K F d v) : DE X G W e (mC d) :=
  h.mono fun σ H Q ⟨H0, F0, F, sl, S, q⟩ => q v H F S (Same.refl F) (r F)

/-! ### what an operand tells -/
/-- d read at v: in the frozen part, or an own object -/
def Peek (K : PySem.W.Frag) (H F : Hp) (d : D) (v : V) : Prop := Rep K F d v ∨ ∃ a, v = .ref a ∧ OwnAt K H F a d
theorem RvOk.peek {r : Rv} {v : V} {d : D} (S : SR G H0 F0 sl σ H F) (h : RvOk G H0 H F sl σ r v) (e : r.get sl = some d) : Peek G.K H F d v := by
  cases r with
  | dat d' =>
    have e : d' = d := Option.some.inj e
    subst e
    exact .inl h
  | new d' =>
    have e : d' = d := Option.some.inj e
    subst e
    obtain ⟨a, e1, _, _, w, _⟩ := h
    exact .inr ⟨a, e1, w⟩
  | slot i =>
    have h : σ[i]? = some (some v) := h
    have e : (sl[i]?).bind Slot.get = some d := e
    cases q : sl[i]? with
    | none => rw [q] at e; cases e
    | some s =>
      rw [q] at e
      have R := S.rel i s q
      cases s with
      | val d' =>
        have e : d' = d := Option.some.inj e
        subst e
        obtain ⟨u, e1, r1⟩ := R
        rw [h] at e1
        cases e1
        exact .inl r1
      | own d' =>
        have e : d' = d := Option.some.inj e
        subst e
        obtain ⟨a, e1, _, _, w⟩ := R
        rw [h] at e1
        cases e1
        exact .inr ⟨a, rfl, w⟩
      | lck d' =>
        have e : d' = d := Option.some.inj e
        subst e
        obtain ⟨a, e1, _, _, w⟩ := R
        rw [h] at e1
        cases e1
        exact .inr ⟨a, rfl, w⟩
      | _ => cases e
/-- a value just made is frozen, so that it stands through what follows -/
theorem RvOk.fix {r : Rv} {v : V} (S : SR G H0 F0 sl σ H F) (h : RvOk G H0 H F sl σ r v) : ∃ F', SR G H0 F0 sl σ H F' ∧ Same F F' ∧ RvOk G H0 H F' sl σ r.fix v := by
  cases r with
  | dat d => exact ⟨F, S, Same.refl F, h⟩
  | slot i => exact ⟨F, S, Same.refl F, h⟩
  | new d =>
    obtain ⟨a, e1, f, z, w, ap⟩ := h
    subst e1
    refine ⟨frzAt F H a, ⟨⟨S.grow.ext, S.grow.fsub.trans (frzAt_same S.sub f), frzAt_sub S.sub, fun b e1 n => ?_⟩, S.len, fun j s ej => (S.rel j s ej).move (frzAt_same S.sub f) fun m b eb fb _ => ⟨rfl, ?_⟩, S.sep, S.tabs, fun p hp => ?_⟩, frzAt_same S.sub f, w.frozen S.sub f⟩
    · unfold frzAt at n
      by_cases q : b = a
      · rw [q]; exact .inl z
      · rw [if_neg q] at n; exact S.grow.new b e1 n
    · unfold frzAt
      by_cases y : b = a
      · subst y
        exact (ap j s ej m eb).elim
      · rw [if_neg y]; exact fb
    · unfold frzAt
      by_cases y : p.1 = a
      · obtain ⟨ps, e1, _⟩ := S.tabs p hp
        obtain ⟨u, q1, n1, _⟩ := w.there
        rw [y, q1] at e1
        exact absurd (Option.some.inj e1) (n1 ps)
      · rw [if_neg y]; exact S.nt p hp
/-- a value that was told stands further -/
theorem RvOk.on {r : Rv} {v : V} (h : RvOk G H0 H F sl σ r.fix v) (s : Same F F1) : RvOk G H0 H1 F1 sl1 σ r.fix v := by
  cases r with
  | dat d => exact Rep.mono s _ _ h
  | new d => exact Rep.mono s _ _ h
  | slot i => exact h

/-! ### built-in operations of plain data -/
/-- what an operation hands back: data in the frozen part, or a new object -/
def ResOk (K : PySem.W.Frag) (H H' F' : Hp) : Rv → V → Prop
  | .dat d, v => Rep K F' d v
  | .new d, v => ∃ a, v = .ref a ∧ F' a = none ∧ H a = none ∧ OwnAt K H' F' a d
  | .slot _, _ => False
/-- tables stay where nothing but new objects come -/
def GrowT (G : Gx) (F H F' H' : Hp) : Prop := Grow F H F' H' ∧ (LamX.Tabs G.T H → LamX.Tabs G.T H')
theorem GrowT.refl (s : Same F H) : GrowT G F H F H := ⟨Grow.refl s, fun t => t⟩
theorem GrowT.alloc (s : Same F H) {p : Addr} (o : HO) (hp : H p = none) : GrowT G F H F (upd H p o) := ⟨Grow.alloc s o hp, fun t => Tabs_alloc t hp⟩
theorem GrowT.allocF (s : Same F H) {p : Addr} (o : HO) (hp : H p = none) : GrowT G F H (upd F p o) (upd H p o) := ⟨Grow.allocF s o hp, fun t => Tabs_alloc t hp⟩
theorem ResOk.rv {r : Rv} {v : V} (S : SR G H0 F0 sl σ H F) (g : Grow F H F1 H1) (h : ResOk G.K H H1 F1 r v) : RvOk G H0 H1 F1 sl σ r v := by
  cases r with
  | dat d => exact h
  | slot i => exact h.elim
  | new d =>
    obtain ⟨a, e1, f, z, w⟩ := h
    refine ⟨a, e1, f, S.grow.isN z, w, fun j t ej m eb => ?_⟩
    obtain ⟨b, u, e2, _, _, q, _⟩ := (S.rel j t ej).mine m
    rw [eb] at e2
    cases e2
    rw [z] at q
    cases q
theorem EPost.op {r : Rv} {v : V} {Q : VK} (S : SR G H0 F0 sl σ H F) (q : EPost G W H0 F0 F σ Q (.ok r sl)) (g : GrowT G F H F1 H1) (h : ResOk G.K H H1 F1 r v) : Q v H1 :=
  q v H1 F1 (S.to g.1 (g.2 S.tabs)) g.1.fsub (h.rv S g.1)
/-- two operands; f is what the operation r does on plain data -/
def Op2Ok (G : Gx) (r : R2) (f : D → D → Option Rv) : Prop := ∀ (H F : Hp) (x y : D) (v w : V) (z : Rv) (Q : VK), Same F H → LamX.Tabs G.T H → Peek G.K H F x v → Peek G.K H F y w → f x y = some z →
  (∀ u H' F', GrowT G F H F' H' → ResOk G.K H H' F' z u → Q u H') → r v w H Q
theorem te_bin {r : R2} {f : D → D → Option Rv} {ma mb : ME} (ho : Op2Ok G r f) {Q : VK} (q : TEd G W (mBin f ma mb) σ H Q) : (TEd G W ma) σ H fun x H1 => (TEd G W mb) σ H1 fun y H2 => r x y H2 Q := by
  obtain ⟨H0, F0, F, sl, S, q⟩ := q
  refine TEd.bind S q fun ra sl1 v H1 F1 S1 s1 R1 q1 => ?_
  obtain ⟨F1', S1', s1', R1'⟩ := R1.fix S1
  refine TEd.bind S1' (EPost.on q1 s1') fun rb sl2 w H2 F2 S2 s2 R2 q2 => ?_
  obtain ⟨F2', S2', s2', R2'⟩ := R2.fix S2
  have R1'' : RvOk G H0 H2 F2' sl2 σ ra.fix v := R1'.on (s2.trans s2')
  have q3 := EPost.on q2 s2'
  cases e1 : ra.fix.get sl2 with
  | none => rw [e1] at q3; exact q3.elim
  | some x =>
    cases e2 : rb.fix.get sl2 with
    | none => rw [e1, e2] at q3; exact q3.elim
    | some y =>
      cases e3 : f x y with
      | none => simp only [e1, e2, e3] at q3; exact q3.elim
      | some z =>
        simp only [e1, e2, e3] at q3
        exact ho H2 F2' x y v w z Q S2'.sub S2'.tabs (R1''.peek S2' e1) (R2'.peek S2' e2) e3 fun u H' F' g h => EPost.op S2' q3 g h
theorem de_bin {op : Operator} {r : R2} {f : D → D → Option Rv} {ma mb : ME} {a b : Expr} {pos : Pos} (hr : OpR X (binaryOp op) r) (ho : Op2Ok G r f) (ha : DE X G W a ma) (hb : DE X G W b mb) : DE X G W (.BinOp a op b pos) (mBin f ma mb) :=
  (pe_op hr ha hb).mono fun σ H Q q => te_bin ho q
end
end DL
end
section
set_option linter.all false
set_option maxRecDepth 100000
set_option maxHeartbeats 4000000
set_option autoImplicit false
namespace DL
open PySem L2

theorem sizeL_eq : sizeL = sizeLine := by rw [sizeLine_eq]; rfl
section
variable {K : PySem.W.Frag} {H F : Hp}
/-! ### reading operands -/
theorem Peek.int {i : Int} {v : V} (h : Peek K H F (.int i) v) : v = .int i := by
  rcases h with h | ⟨a, _, w⟩
  · exact h
  · exact (show False from w).elim
theorem Peek.str {x : Str} {v : V} (h : Peek K H F (.str x) v) : v = .str x := by
  rcases h with h | ⟨a, _, w⟩
  · exact h
  · exact (show False from w).elim
theorem Peek.bl {b : Bool} {v : V} (h : Peek K H F (.bl b) v) : v = .bl b := by
  rcases h with h | ⟨a, _, w⟩
  · exact h
  · exact (show False from w).elim
theorem Peek.non {v : V} (h : Peek K H F .non v) : v = .non := by
  rcases h with h | ⟨a, _, w⟩
  · exact h
  · exact (show False from w).elim
theorem Peek.tup {ds : List D} {v : V} (h : Peek K H F (.tup ds) v) : ds.length ≤ sizeLine ∧ ∃ a vs, v = .ref a ∧ F a = some (.tup vs) ∧ Reps K F ds vs := by
  rcases h with h | ⟨a, _, w⟩
  · simpa only [Rep] using h
  · exact (show False from w).elim
theorem Peek.lst {ds : List D} {v : V} (s : Same F H) (h : Peek K H F (.lst ds) v) : ds.length ≤ sizeLine ∧ ∃ a vs, v = .ref a ∧ H a = some (.lst vs) ∧ Reps K F ds vs := by
  rcases h with h | ⟨a, e, w⟩
  · simp only [Rep] at h
    obtain ⟨z, a, vs, e1, e2, r⟩ := h
    exact ⟨z, a, vs, e1, s _ _ e2, r⟩
  · obtain ⟨z, vs, q, r⟩ := w
    exact ⟨z, a, vs, e, q, r⟩
theorem Peek.dct {ds : List (Ky × D)} {v : V} (s : Same F H) (h : Peek K H F (.dct ds) v) : ∃ a vs, v = .ref a ∧ H a = some (.dK vs) ∧ RepK K F ds vs := by
  rcases h with h | ⟨a, e, w⟩
  · simp only [Rep] at h
    obtain ⟨a, vs, e1, e2, r⟩ := h
    exact ⟨a, vs, e1, s _ _ e2, r⟩
  · obtain ⟨vs, q, r⟩ := w
    exact ⟨a, vs, e, q, r⟩
theorem Peek.dctT {ds : List (List Ky × D)} {v : V} (s : Same F H) (h : Peek K H F (.dctT ds) v) : ∃ a vs, v = .ref a ∧ H a = some (.dT vs) ∧ RepT K F ds vs := by
  rcases h with h | ⟨a, e, w⟩
  · simp only [Rep] at h
    obtain ⟨a, vs, e1, e2, r⟩ := h
    exact ⟨a, vs, e1, s _ _ e2, r⟩
  · obtain ⟨vs, q, r⟩ := w
    exact ⟨a, vs, e, q, r⟩
theorem Peek.scr {ns : List Int} {v : V} (s : Same F H) (h : Peek K H F (.scr ns) v) : ns.length ≤ sizeLine ∧ ∃ a, v = .ref a ∧ SqL K H a (ns.map V.int) := by
  rcases h with h | ⟨a, e, w⟩
  · simp only [Rep] at h
    obtain ⟨z, a, e1, e2⟩ := h
    exact ⟨z, a, e1, s.seq e2⟩
  · exact (show False from w).elim
end

theorem OpR.or {X : Cx} {f : Value → Value → Sem Value} {r r' : R2} (h : OpR X f r) (h' : OpR X f r') : OpR X f (fun x y H Q => r x y H Q ∨ r' x y H Q) := by
  intro pins s σ H x y v u Q I rx ry q
  rcases q with q | q
  · exact h pins s σ H x y v u Q I rx ry q
  · exact h' pins s σ H x y v u Q I rx ry q

section
open PySem.Spec PyProof.Rows
theorem tup_times_one (l : Addr) (ar : Array Value) (m : Nat) (od : Option Addr) (sz : Array (Option Value)) (t1 : Tok) :
    Meets (Builtin.«tuple.__mul__» ⟨[Value.ref l, Value.int 1 t1], []⟩) (fun _ Rr st =>
      st.heap.get? l = some { cls := .type "tuple", dict := od, data := .seq ar m, slots := sz } ∧ Rr (.ok (.ret (Value.ref l))) st) :=
  .of_wp fun pg wd Ar Rr st hh => by
    obtain ⟨h0, g0, d0, k0, o0⟩ := st
    obtain ⟨hl, hq⟩ := hh
    have f1 := AutoSeq1.idx_int
    wp_walk using wpAny_loadPart' hl
    exact ⟨_, rfl, hq⟩
end
section
open PySem.Spec PyProof.Rows
variable {X : Cx} {G : Gx}
/-! ### + -/
theorem o_add : ∃ r, OpR X (binaryOp .Add) r ∧ (X.K = G.K → Op2Ok G r opAdd) := by
  refine ⟨_, OpR.or op_add (OpR.or op_add_str (OpR.or op_cat op_catA)), fun hK H F x y v w z Q sF tb px py e k => ?_⟩
  unfold opAdd at e
  split at e
  · cases e
    rw [px.int, py.int]
    exact .inl ⟨_, _, rfl, rfl, k _ H F (GrowT.refl sF) rfl⟩
  · split at e
    · cases e
      rename_i hz
      rw [px.str, py.str]
      exact .inr (.inl ⟨_, _, rfl, rfl, by rw [← sizeL_eq]; exact hz, k _ H F (GrowT.refl sF) rfl⟩)
    · cases e
  · split at e
    · cases e
      rename_i a b hz
      obtain ⟨_, p, vs, rfl, ep, rp⟩ := px.lst sF
      obtain ⟨_, q, ws, rfl, eq, rq⟩ := py.lst sF
      refine .inr (.inr (.inl ⟨p, q, vs, ws, rfl, rfl, ep, eq, by rw [rp.length, rq.length, ← sizeL_eq]; exact hz, fun n hn => k _ _ F (GrowT.alloc sF _ hn) ⟨n, rfl, ?_, hn, ?_⟩⟩))
      · cases e : F n with
        | none => rfl
        | some o => rw [sF _ _ e] at hn; cases hn
      · exact ⟨by rw [List.length_append, ← sizeL_eq]; exact hz, _, upd_same, rp.append rq⟩
    · cases e
  · split at e
    · cases e
      rename_i a b hz
      obtain ⟨z1, p, vs, rfl, ep, rp⟩ := px.tup
      obtain ⟨z2, q, ws, rfl, eq, rq⟩ := py.tup
      have l1 := rp.length
      have l2 := rq.length
      refine .inr (.inr (.inr ⟨p, q, vs, ws, rfl, rfl, SqT.of (sF _ _ ep), SqT.of (sF _ _ eq), by rw [l1, l2, ← sizeL_eq]; exact hz, fun en => ?_, fun en1 en2 => ?_, fun en1 en2 n hn => ?_⟩))
      · subst en
        have : a = [] := List.length_eq_zero_iff.mp (by rw [← l1]; rfl)
        subst this
        exact k _ H F (GrowT.refl sF) (show Rep G.K F (.tup b) (.ref q) by simp only [Rep]; exact ⟨z2, q, ws, rfl, eq, rq⟩)
      · subst en2
        have : b = [] := List.length_eq_zero_iff.mp (by rw [← l2]; rfl)
        subst this
        exact k _ H F (GrowT.refl sF) (show Rep G.K F (.tup (a ++ [])) (.ref p) by simp only [Rep, List.append_nil]; exact ⟨z1, p, vs, rfl, ep, rp⟩)
      · refine k _ _ _ (GrowT.allocF sF _ hn) (show Rep G.K (upd F n (.tup (vs ++ ws))) (.tup (a ++ b)) (.ref n) from ?_)
        simp only [Rep]
        exact ⟨by rw [List.length_append, ← sizeL_eq]; exact hz, n, _, rfl, upd_same, Reps.mono (Grow.allocF sF _ hn).fsub _ _ (rp.append rq)⟩
    · cases e
  · cases e
theorem Op2Ok.int2 {f : D → D → Option Rv} {C : Int → Int → Prop} {g : Int → Int → V} (h : ∀ x y z, f x y = some z → ∃ i j, x = .int i ∧ y = .int j ∧ C i j ∧ ∃ d, z = .dat d ∧ ∀ K F, Rep K F d (g i j)) : Op2Ok G (rI C g) f := by
  intro H F x y v w z Q sF tb px py e k
  obtain ⟨i, j, rfl, rfl, hc, d, rfl, r⟩ := h x y z e
  rw [px.int, py.int]
  exact ⟨i, j, rfl, rfl, hc, k _ H F (GrowT.refl sF) (r _ _)⟩
theorem o_sub : Op2Ok G (rI0 fun i j => .int (i - j)) opSub := by
  intro H F x y v w z Q sF tb px py e k
  unfold opSub at e
  split at e
  · cases e
    rw [px.int, py.int]
    exact ⟨_, _, rfl, rfl, k _ H F (GrowT.refl sF) rfl⟩
  · cases e
theorem o_fdiv : Op2Ok G (rI CDivW fun i j => .int (i / j)) opFdiv := Op2Ok.int2 fun x y z e => by
  unfold opFdiv at e
  split at e
  · split at e
    · cases e
      rename_i hz
      exact ⟨_, _, rfl, rfl, hz, _, rfl, fun _ _ => rfl⟩
    · cases e
  · cases e
theorem o_mod : Op2Ok G (rI (fun _ j => 0 < j) fun i j => .int (i % j)) opMod := Op2Ok.int2 fun x y z e => by
  unfold opMod at e
  split at e
  · split at e
    · cases e
      rename_i hz
      exact ⟨_, _, rfl, rfl, hz, _, rfl, fun _ _ => rfl⟩
    · cases e
  · cases e
theorem Reps.rep {K : PySem.W.Frag} {F : Hp} {ds : List D} {vs : List V} (r : Reps K F ds vs) : ∀ n : Nat, Reps K F (List.replicate n ds).flatten (List.replicate n vs).flatten
  | 0 => by simp only [List.replicate_zero, List.flatten_nil]; rfl
  | n + 1 => by
    rw [List.replicate_succ, List.replicate_succ, List.flatten_cons, List.flatten_cons]
    exact r.append (Reps.rep r n)
theorem len_rep {α : Type} (l : List α) : ∀ n : Nat, (List.replicate n l).flatten.length = n * l.length
  | 0 => by simp
  | n + 1 => by rw [List.replicate_succ, List.flatten_cons, List.length_append, len_rep l n, Nat.succ_mul, Nat.add_comm]
/-- a tuple once is itself -/
theorem op_rep1 : OpR X (binaryOp .Mult) (fun x y H Q => ∃ l xs, x = .ref l ∧ y = .int 1 ∧ SqT X.K H l xs ∧ Q (.ref l) H) := by
  intro pins s σ H x y v u Q I rx ry h
  obtain ⟨l, xs, rfl, rfl, hx, q⟩ := h
  cases rx
  obtain ⟨t1, rfl⟩ := ry
  obtain ⟨its, _, ⟨⟨oc, od, da, sz⟩, ho, hc, m, hd⟩, _⟩ := I.tuple hx
  dsimp only at hc hd
  subst hc hd
  refine wpAny_binaryOp_repeat_ref (T := "tuple") (U := "int") (by decide) ⟨_, ho, rfl⟩ (fun s' => typeIs_int s' 1 t1) noFill_tuple_mul F.fills_int_mul F.slot_int_rmul repeat_tuple F.slot_int_index.lookup ?_
  refine call_meets F.slot_int_rmul (typeIs_int s 1 t1) F.entry_int_rmul (F.args_int_rmul_2 _ _) (int_rmul_tuple 1 t1 l its.toArray m od sz) ⟨ho, rfl, ⟨_, ho, rfl⟩, ?_⟩
  exact call_meets F.slot_tuple_mul ⟨_, ho, rfl⟩ F.entry_tuple_mul (F.args_tuple_mul_2 _ _) (tup_times_one l its.toArray m od sz t1) ⟨ho, .ref l, H, I, rfl, q⟩
theorem o_mul : ∃ r, OpR X (binaryOp .Mult) r ∧ (X.K = G.K → Op2Ok G r opMul) := by
  refine ⟨_, OpR.or op_mul (OpR.or op_mulW (OpR.or op_rep1 (OpR.or op_repT op_rep))), fun hK H F x y v w z Q sF tb px py e k => ?_⟩
  unfold opMul at e
  split at e
  · split at e
    · cases e
      rename_i hz
      rw [px.int, py.int]
      unfold okMul at hz
      rcases Bool.or_eq_true_iff.mp hz with hz | hz
      · have hz := of_decide_eq_true hz
        exact .inl ⟨_, _, rfl, rfl, hz, k _ H F (GrowT.refl sF) rfl⟩
      · have hz := of_decide_eq_true hz
        exact .inr (.inl ⟨_, _, rfl, rfl, hz, k _ H F (GrowT.refl sF) rfl⟩)
    · cases e
  · split at e
    · cases e
      rename_i a j hz
      obtain ⟨hne, h1, h2, h3⟩ := hz
      obtain ⟨z1, p, vs, rfl, ep, rp⟩ := px.tup
      rw [py.int]
      have l1 := rp.length
      have vne : vs ≠ [] := fun q => hne (List.length_eq_zero_iff.mp (by rw [← l1, q]; rfl))
      by_cases hj : j = 1
      · subst hj
        refine .inr (.inr (.inl ⟨p, vs, rfl, rfl, SqT.of (sF _ _ ep), k _ H F (GrowT.refl sF) (show Rep G.K F (.tup _) (.ref p) from ?_)⟩))
        simp only [Rep]
        have e1 : (List.replicate (1 : Int).toNat a).flatten = a := by simp
        rw [e1]
        exact ⟨z1, p, vs, rfl, ep, rp⟩
      · refine .inr (.inr (.inr (.inl ⟨p, j, vs, rfl, rfl, SqT.of (sF _ _ ep), vne, by omega, h2, by rw [l1]; exact h3, fun n hn => k _ _ _ (GrowT.allocF sF _ hn) (show Rep G.K (upd F n _) (.tup _) (.ref n) from ?_)⟩)))
        simp only [Rep]
        refine ⟨?_, n, _, rfl, upd_same, Reps.mono (Grow.allocF sF _ hn).fsub _ _ (rp.rep _)⟩
        rw [len_rep, sizeLine_eq]
        have : j.toNat * a.length ≤ 1000 * 1000 := Nat.mul_le_mul (by omega) h3
        omega
    · cases e
  · split at e
    · cases e
      rename_i a j hz
      obtain ⟨h1, h2, h3⟩ := hz
      obtain ⟨z1, p, vs, rfl, ep, rp⟩ := px.lst sF
      rw [py.int]
      have l1 := rp.length
      have lim : a.length * j.toNat ≤ 1000 * 1000 := Nat.mul_le_mul h3 (by omega)
      refine .inr (.inr (.inr (.inr ⟨p, j, vs, rfl, rfl, ep, by omega, by omega, by rw [l1, sizeLine_eq]; omega, fun n hn => k _ _ F (GrowT.alloc sF _ hn) ⟨n, rfl, ?_, hn, ?_⟩⟩)))
      · cases e : F n with
        | none => rfl
        | some o => rw [sF _ _ e] at hn; cases hn
      · exact ⟨by rw [len_rep, Nat.mul_comm, sizeLine_eq]; omega, _, upd_same, rp.rep _⟩
    · cases e
  · cases e
end
end DL
end
section
set_option linter.all false
set_option maxRecDepth 100000
set_option maxHeartbeats 4000000
set_option autoImplicit false
namespace DL
open PySem L2
/-! ### == -/
mutual
def D.toP : D → PyData
  | .non => .none
  | .bl b => .bool b
  | .int i => .int i
  | .str x => .str x
  | .lst ds => .list (D.toPs ds)
  | .tup ds => .tuple (D.toPs ds)
  | .scr ns => .list (ns.map .int)
  | .dct _ => .none
  | .dctT _ => .none
  | .exn _ => .none
def D.toPs : List D → List PyData
  | [] => []
  | d :: ds => D.toP d :: D.toPs ds
end
mutual
theorem toP_lay : ∀ d : D, d.laid = true → d.toP.canLay0 = true
  | .non, _ => by simp [D.toP, PyData.canLay0]
  | .bl _, _ => by simp [D.toP, PyData.canLay0]
  | .int _, _ => by simp [D.toP, PyData.canLay0]
  | .str x, h => by
    simp only [D.laid, okStr] at h
    simp only [D.toP, PyData.canLay0, PyData.strOk]
    rw [← Array.all_toList]
    simpa using h
  | .lst ds, h => by
    simp only [D.laid] at h
    simp only [D.toP, PyData.canLay0]
    exact toPs_lay ds h
  | .tup ds, h => by
    simp only [D.laid] at h
    simp only [D.toP, PyData.canLay0]
    exact toPs_lay ds h
  | .scr _, h => by simp [D.laid] at h
  | .dct _, h => by simp [D.laid] at h
  | .dctT _, h => by simp [D.laid] at h
  | .exn _, h => by simp [D.laid] at h
theorem toPs_lay : ∀ ds : List D, D.laids ds = true → PyData.canLayAll0 (D.toPs ds) = true
  | [], _ => by simp [D.toPs, PyData.canLayAll0]
  | d :: ds, h => by
    simp only [D.laids, Bool.and_eq_true] at h
    simp only [D.toPs, PyData.canLayAll0, Bool.and_eq_true]
    exact ⟨toP_lay d h.1, toPs_lay ds h.2⟩
end
mutual
theorem toP_dep : ∀ d : D, d.laid = true → d.toP.depth = d.dep
  | .non, _ => by simp [D.toP, PyData.depth, D.dep]
  | .bl _, _ => by simp [D.toP, PyData.depth, D.dep]
  | .int _, _ => by simp [D.toP, PyData.depth, D.dep]
  | .str x, h => by simp [D.toP, PyData.depth, D.dep]
  | .lst ds, h => by
    simp only [D.laid] at h
    simp only [D.toP, PyData.depth, D.dep, toPs_dep ds h]
  | .tup ds, h => by
    simp only [D.laid] at h
    simp only [D.toP, PyData.depth, D.dep, toPs_dep ds h]
  | .scr _, h => by simp [D.laid] at h
  | .dct _, h => by simp [D.laid] at h
  | .dctT _, h => by simp [D.laid] at h
  | .exn _, h => by simp [D.laid] at h
theorem toPs_dep : ∀ ds : List D, D.laids ds = true → PyData.depthAll (D.toPs ds) = D.deps ds
  | [], _ => by simp [D.toPs, PyData.depthAll, D.deps]
  | d :: ds, h => by
    simp only [D.laids, Bool.and_eq_true] at h
    simp only [D.toPs, PyData.depthAll, D.deps, toP_dep d h.1, toPs_dep ds h.2]
end
mutual
theorem toP_eqv : ∀ d e : D, d.laid = true → e.laid = true → PyData.eqv d.toP e.toP = D.eqv d e
  | .non, e, _, h => by cases e <;> first | (simp [D.laid] at h; done) | simp [D.toP, PyData.eqv, D.eqv]
  | .bl _, e, _, h => by cases e <;> first | (simp [D.laid] at h; done) | simp [D.toP, PyData.eqv, D.eqv]
  | .int _, e, _, h => by cases e <;> first | (simp [D.laid] at h; done) | simp [D.toP, PyData.eqv, D.eqv]
  | .str _, e, _, h => by cases e <;> first | (simp [D.laid] at h; done) | simp [D.toP, PyData.eqv, D.eqv]
  | .lst ds, e, g, h => by
    cases e with
    | lst es =>
      simp only [D.laid] at g h
      simp only [D.toP, PyData.eqv, D.eqv, toPs_eqv ds es g h]
    | _ => first | (simp [D.laid] at h; done) | simp [D.toP, PyData.eqv, D.eqv]
  | .tup ds, e, g, h => by
    cases e with
    | tup es =>
      simp only [D.laid] at g h
      simp only [D.toP, PyData.eqv, D.eqv, toPs_eqv ds es g h]
    | _ => first | (simp [D.laid] at h; done) | simp [D.toP, PyData.eqv, D.eqv]
  | .scr _, _, h, _ => by simp [D.laid] at h
  | .dct _, _, h, _ => by simp [D.laid] at h
  | .dctT _, _, h, _ => by simp [D.laid] at h
  | .exn _, _, h, _ => by simp [D.laid] at h
theorem toPs_eqv : ∀ ds es : List D, D.laids ds = true → D.laids es = true → PyData.eqvAll (D.toPs ds) (D.toPs es) = D.eqvs ds es
  | [], [], _, _ => by simp [D.toPs, PyData.eqvAll, D.eqvs]
  | [], _ :: _, _, _ => by simp [D.toPs, PyData.eqvAll, D.eqvs]
  | _ :: _, [], _, _ => by simp [D.toPs, PyData.eqvAll, D.eqvs]
  | d :: ds, e :: es, g, h => by
    simp only [D.laids, Bool.and_eq_true] at g h
    simp only [D.toPs, PyData.eqvAll, D.eqvs, toP_eqv d e g.1 h.1, toPs_eqv ds es g.2 h.2]
end
section
variable {K : PySem.W.Frag} {H F : Hp}
mutual
theorem rep_dp (sF : Same F H) : ∀ (d : D) (v : V), d.laid = true → Rep K F d v → Dp K H v d.toP
  | .non, v, _, r => by
    simp only [Rep] at r
    subst r
    simp only [D.toP]
    exact .non
  | .bl b, v, _, r => by
    simp only [Rep] at r
    subst r
    simp only [D.toP]
    exact .bl b
  | .int b, v, _, r => by
    simp only [Rep] at r
    subst r
    simp only [D.toP]
    exact .int b
  | .str b, v, _, r => by
    simp only [Rep] at r
    subst r
    simp only [D.toP]
    exact .str b
  | .lst ds, v, h, r => by
    simp only [D.laid] at h
    simp only [Rep] at r
    obtain ⟨_, a, vs, rfl, e, q⟩ := r
    simp only [D.toP]
    exact .lst (SqL.of (sF _ _ e)) (reps_dp sF ds vs h q)
  | .tup ds, v, h, r => by
    simp only [D.laid] at h
    simp only [Rep] at r
    obtain ⟨_, a, vs, rfl, e, q⟩ := r
    simp only [D.toP]
    exact .tup (SqT.of (sF _ _ e)) (reps_dp sF ds vs h q)
  | .scr _, _, h, _ => by simp [D.laid] at h
  | .dct _, _, h, _ => by simp [D.laid] at h
  | .dctT _, _, h, _ => by simp [D.laid] at h
  | .exn _, _, h, _ => by simp [D.laid] at h
theorem reps_dp (sF : Same F H) : ∀ (ds : List D) (vs : List V), D.laids ds = true → Reps K F ds vs → DpAll K H vs (D.toPs ds)
  | [], vs, _, r => by
    simp only [Reps] at r
    subst r
    simp only [D.toPs]
    exact .nil
  | d :: ds, vs, h, r => by
    simp only [D.laids, Bool.and_eq_true] at h
    simp only [Reps] at r
    obtain ⟨v, ws, rfl, r1, r2⟩ := r
    simp only [D.toPs]
    exact .cons (rep_dp sF d v h.1 r1) (reps_dp sF ds ws h.2 r2)
end
theorem ints_dp : ∀ ns : List Int, DpAll K H (ns.map V.int) (D.toPs (ns.map D.int))
  | [] => by simp only [List.map_nil, D.toPs]; exact .nil
  | n :: ns => by
    simp only [List.map_cons, D.toPs, D.toP]
    exact .cons (.int n) (ints_dp ns)
theorem Peek.dp (sF : Same F H) {d : D} {v : V} (h : d.norm.laid = true) (p : Peek K H F d v) : Dp K H v d.norm.toP := by
  cases d with
  | scr ns =>
    obtain ⟨_, a, rfl, s⟩ := p.scr sF
    simp only [D.norm, D.toP]
    exact .lst s (ints_dp ns)
  | lst ds =>
    obtain ⟨_, a, vs, rfl, e, r⟩ := p.lst sF
    simp only [D.norm, D.laid] at h
    simp only [D.norm, D.toP]
    exact .lst (SqL.of e) (reps_dp sF ds vs h r)
  | dct ds => simp [D.norm, D.laid] at h
  | dctT ds => simp [D.norm, D.laid] at h
  | exn ds => simp [D.norm, D.laid] at h
  | non => rw [p.non]; simp only [D.norm, D.toP]; exact .non
  | bl b => rw [p.bl]; simp only [D.norm, D.toP]; exact .bl b
  | int b => rw [p.int]; simp only [D.norm, D.toP]; exact .int b
  | str b => rw [p.str]; simp only [D.norm, D.toP]; exact .str b
  | tup ds =>
    obtain ⟨_, a, vs, rfl, e, r⟩ := p.tup
    simp only [D.norm, D.laid] at h
    simp only [D.norm, D.toP]
    exact .tup (SqT.of (sF _ _ e)) (reps_dp sF ds vs h r)
end
/-- == where the lesser depth is small -/
def rEqM (K : PySem.W.Frag) (neg : Bool) : R2 := fun x y H Q => ∃ d e, Dp K H x d ∧ Dp K H y e ∧ d.canLay0 = true ∧ e.canLay0 = true ∧ min d.depth e.depth ≤ 64 ∧ Q (.bl (if neg then !PyData.eqv d e else PyData.eqv d e)) H
section
open PySem.Spec PyProof.Rows
variable {X : Cx} {G : Gx}
theorem op_eqM (hu : X.A.units + 64 < cLine) : OpR X (compareOp .Eq) (rEqM X.K false) := by
  intro pins s σ H x y v u Q I rx ry h
  obtain ⟨d, e, hd, he, cd, ce, dm, q⟩ := h
  obtain ⟨as, r1⟩ := Dp.reads I d x v hd rx
  obtain ⟨bs, r2⟩ := Dp.reads I e y u he ry
  refine SeqAt.compareEq_reads r1 r2 cd ce ?_ ⟨.bl _, H, I, rfl, q⟩
  omega
theorem op_neM (hu : X.A.units + 64 < cLine) : OpR X (compareOp .NotEq) (rEqM X.K true) := by
  intro pins s σ H x y v u Q I rx ry h
  obtain ⟨d, e, hd, he, cd, ce, dm, q⟩ := h
  obtain ⟨as, r1⟩ := Dp.reads I d x v hd rx
  obtain ⟨bs, r2⟩ := Dp.reads I e y u he ry
  refine SeqAt.compareNe_reads r1 r2 cd ce ?_ ⟨.bl _, H, I, rfl, q⟩
  omega
theorem opEq0_dp {K : PySem.W.Frag} {H F : Hp} {x y : D} {v w : V} {b : Bool} (sF : Same F H) (px : Peek K H F x v) (py : Peek K H F y w) (e : opEq0 x.norm y.norm = some b) :
    ∃ d e, Dp K H v d ∧ Dp K H w e ∧ d.canLay0 = true ∧ e.canLay0 = true ∧ min d.depth e.depth ≤ 64 ∧ PyData.eqv d e = b := by
  unfold opEq0 at e
  split at e
  · rename_i h
    obtain ⟨h1, h2, h3⟩ := h
    refine ⟨_, _, px.dp sF h1, py.dp sF h2, toP_lay _ h1, toP_lay _ h2, by rw [toP_dep _ h1, toP_dep _ h2]; exact h3, ?_⟩
    rw [toP_eqv _ _ h1 h2]
    exact Option.some.inj e
  · cases e
theorem o_eq : Op2Ok G (rEqM G.K false) opEq := by
  intro H F x y v w z Q sF tb px py e k
  obtain ⟨b, e1, e2⟩ := Option.map_eq_some_iff.mp (show (opEq0 x.norm y.norm).map _ = some z from e)
  obtain ⟨d, e', h1, h2, h3, h4, h5, h6⟩ := opEq0_dp sF px py e1
  subst e2
  exact ⟨d, e', h1, h2, h3, h4, h5, k _ H F (GrowT.refl sF) (show (V.bl _) = V.bl b by rw [← h6]; rfl)⟩
theorem o_ne : Op2Ok G (rEqM G.K true) opNe := by
  intro H F x y v w z Q sF tb px py e k
  obtain ⟨b, e1, e2⟩ := Option.map_eq_some_iff.mp (show (opEq0 x.norm y.norm).map _ = some z from e)
  obtain ⟨d, e', h1, h2, h3, h4, h5, h6⟩ := opEq0_dp sF px py e1
  subst e2
  exact ⟨d, e', h1, h2, h3, h4, h5, k _ H F (GrowT.refl sF) (show (V.bl _) = V.bl (!b) by rw [← h6]; rfl)⟩
/-! ### order -/
theorem o_lt : ∃ r, OpR X (compareOp .Lt) r ∧ Op2Ok G r opLt := by
  refine ⟨_, OpR.or op_lt op_lt_str, fun H F x y v w z Q sF tb px py e k => ?_⟩
  unfold opLt at e
  split at e
  · cases e
    rw [px.int, py.int]
    exact .inl ⟨_, _, rfl, rfl, k _ H F (GrowT.refl sF) rfl⟩
  · cases e
    rw [px.str, py.str]
    exact .inr ⟨_, _, rfl, rfl, k _ H F (GrowT.refl sF) rfl⟩
  · cases e
theorem o_le : ∃ r, OpR X (compareOp .LtE) r ∧ Op2Ok G r opLe := by
  refine ⟨_, OpR.or op_le op_le_str, fun H F x y v w z Q sF tb px py e k => ?_⟩
  unfold opLe at e
  split at e
  · cases e
    rw [px.int, py.int]
    exact .inl ⟨_, _, rfl, rfl, k _ H F (GrowT.refl sF) rfl⟩
  · cases e
    rw [px.str, py.str]
    exact .inr ⟨_, _, rfl, rfl, k _ H F (GrowT.refl sF) rfl⟩
  · cases e
theorem o_gt : ∃ r, OpR X (compareOp .Gt) r ∧ Op2Ok G r opGt := by
  refine ⟨_, OpR.or op_gt op_gt_str, fun H F x y v w z Q sF tb px py e k => ?_⟩
  unfold opGt at e
  split at e
  · cases e
    rw [px.int, py.int]
    exact .inl ⟨_, _, rfl, rfl, k _ H F (GrowT.refl sF) rfl⟩
  · cases e
    rw [px.str, py.str]
    exact .inr ⟨_, _, rfl, rfl, k _ H F (GrowT.refl sF) rfl⟩
  · cases e
theorem o_ge : ∃ r, OpR X (compareOp .GtE) r ∧ Op2Ok G r opGe := by
  refine ⟨_, OpR.or op_ge op_ge_str, fun H F x y v w z Q sF tb px py e k => ?_⟩
  unfold opGe at e
  split at e
  · cases e
    rw [px.int, py.int]
    exact .inl ⟨_, _, rfl, rfl, k _ H F (GrowT.refl sF) rfl⟩
  · cases e
    rw [px.str, py.str]
    exact .inr ⟨_, _, rfl, rfl, k _ H F (GrowT.refl sF) rfl⟩
  · cases e
/-! ### is -/
theorem o_is : ∃ r, OpR X (compareOp .Is) r ∧ Op2Ok G r opIs := by
  refine ⟨_, OpR.or op_isBl op_isN, fun H F x y v w z Q sF tb px py e k => ?_⟩
  unfold opIs at e
  split at e
  case h_1 =>
    cases e
    rw [px.bl, py.bl]
    exact .inl ⟨_, _, rfl, rfl, k _ H F (GrowT.refl sF) (by show V.bl _ = V.bl _; rw [Bool.beq_eq_decide_eq])⟩
  all_goals first | (cases e; done) | skip
  all_goals
    cases e
    refine .inr ⟨py.non, k _ H F (GrowT.refl sF) ?_⟩
  · rw [px.non]; rfl
  · rw [px.bl]; rfl
  · rw [px.int]; rfl
  · rw [px.str]; rfl
  · obtain ⟨_, a, vs, rfl, _⟩ := px.lst sF; rfl
  · obtain ⟨_, a, vs, rfl, _⟩ := px.tup; rfl
  · obtain ⟨a, vs, rfl, _⟩ := px.dct sF; rfl
theorem o_isNot : ∃ r, OpR X (compareOp .IsNot) r ∧ Op2Ok G r opIsNot := by
  refine ⟨_, OpR.or op_notBl op_notN, fun H F x y v w z Q sF tb px py e k => ?_⟩
  unfold opIsNot at e
  split at e
  case h_1 =>
    cases e
    rw [px.bl, py.bl]
    exact .inl ⟨_, _, rfl, rfl, k _ H F (GrowT.refl sF) (by show V.bl _ = V.bl _; rw [Bool.beq_eq_decide_eq])⟩
  all_goals first | (cases e; done) | skip
  all_goals
    cases e
    refine .inr ⟨py.non, k _ H F (GrowT.refl sF) ?_⟩
  · rw [px.non]; rfl
  · rw [px.bl]; rfl
  · rw [px.int]; rfl
  · rw [px.str]; rfl
  · obtain ⟨_, a, vs, rfl, _⟩ := px.lst sF; rfl
  · obtain ⟨_, a, vs, rfl, _⟩ := px.tup; rfl
  · obtain ⟨a, vs, rfl, _⟩ := px.dct sF; rfl
/-! ### dicts looked up -/
def LookOk (K : PySem.W.Frag) (F : Hp) : Option D → Option V → Prop
  | some d, ov => ∃ u, ov = some u ∧ Rep K F d u
  | none, ov => ov = none
theorem RepK.look {K : PySem.W.Frag} {F : Hp} (k : Ky) : ∀ {kvs : List (Ky × D)} {ws : List (Key × V)}, RepK K F kvs ws → LookOk K F (dGet kvs k) (valV ws k)
  | [], ws, h => by simp only [RepK] at h; subst h; rfl
  | (q, d) :: r, ws, h => by
    simp only [RepK] at h
    obtain ⟨v, ws', rfl, r1, r2⟩ := h
    by_cases e : q = k
    · simp only [dGet, if_pos e]
      exact ⟨v, valV_pos e, r1⟩
    · simp only [dGet, if_neg e]
      have := RepK.look k r2
      rw [valV_neg (p := (q, v)) e]
      exact this
theorem RepT.look {K : PySem.W.Frag} {F : Hp} (k : List Ky) : ∀ {kvs : List (List Ky × D)} {ws : List (List Key × V)}, RepT K F kvs ws → LookOk K F (dGet kvs k) (valV ws k)
  | [], ws, h => by simp only [RepT] at h; subst h; rfl
  | (q, d) :: r, ws, h => by
    simp only [RepT] at h
    obtain ⟨v, ws', rfl, r1, r2⟩ := h
    by_cases e : q = k
    · simp only [dGet, if_pos e]
      exact ⟨v, valV_pos e, r1⟩
    · simp only [dGet, if_neg e]
      have := RepT.look k r2
      rw [valV_neg (p := (q, v)) e]
      exact this
theorem Peek.key {K : PySem.W.Frag} {H F : Hp} {d : D} {v : V} {k : Ky} (p : Peek K H F d v) (e : d.key? = some k) : v = kV k := by
  cases d with
  | int i => cases e; exact p.int
  | str x => cases e; exact p.str
  | _ => cases e
theorem Reps.keys {K : PySem.W.Frag} {F : Hp} : ∀ {ds : List D} {vs : List V} {ks : List Ky}, Reps K F ds vs → keys? ds = some ks → vs = ks.map kV
  | [], vs, ks, r, e => by
    simp only [Reps] at r
    cases e
    exact r
  | d :: ds, vs, ks, r, e => by
    simp only [Reps] at r
    obtain ⟨v, ws, rfl, r1, r2⟩ := r
    simp only [keys?] at e
    cases e1 : d.key? with
    | none => rw [e1] at e; cases e
    | some k =>
      rw [e1] at e
      obtain ⟨ks', e2, e3⟩ := Option.map_eq_some_iff.mp (show (keys? ds).map _ = some ks from e)
      subst e3
      rw [Peek.key (H := F) (.inl r1) e1, Reps.keys r2 e2]
      rfl
/-- what a dict holds -/
theorem look_get {K : PySem.W.Frag} {H F : Hp} {x y : D} {v w : V} {o : Option D} (sF : Same F H) (px : Peek K H F x v) (py : Peek K H F y w) (e : dLook x y = some o) :
    ∃ a ov, v = .ref a ∧ DGet H a w ov ∧ LookOk K F o ov := by
  unfold dLook at e
  split at e
  · obtain ⟨a, ws, rfl, ea, r⟩ := px.dct sF
    obtain ⟨k, e1, e2⟩ := Option.map_eq_some_iff.mp e
    have q := RepK.look k r
    subst e2
    rw [py.key e1]
    exact ⟨a, _, rfl, DGet.k ea, q⟩
  · obtain ⟨a, ws, rfl, ea, r⟩ := px.dctT sF
    obtain ⟨k, e1, e2⟩ := Option.map_eq_some_iff.mp e
    obtain ⟨_, b, vs, rfl, eb, rb⟩ := py.tup
    have q := RepT.look k r
    subst e2
    exact ⟨a, _, rfl, DGet.t ea (by rw [← rb.keys e1]; exact sF _ _ eb), q⟩
  · cases e
/-! ### in -/
def rInDict : R2 := fun y x H Q => ∃ a o, x = .ref a ∧ DGet H a y o ∧ Q (.bl o.isSome) H
def rNotInDict : R2 := fun y x H Q => ∃ a o, x = .ref a ∧ DGet H a y o ∧ Q (.bl (!o.isSome)) H
theorem op_inDict (hu : X.A.units + 1 < cLine) : OpR X (compareOp .In) rInDict := by
  intro pins s σ H y x u v Q I ry rx h
  obtain ⟨a, o, rfl, g, q⟩ := h
  cases rx
  exact d_in hu I g ry fun s' I' => ⟨.bl o.isSome, H, I', rfl, q⟩
theorem op_notInDict (hu : X.A.units + 1 < cLine) : OpR X (compareOp .NotIn) rNotInDict := by
  intro pins s σ H y x u v Q I ry rx h
  obtain ⟨a, o, rfl, g, q⟩ := h
  cases rx
  exact d_notIn hu I g ry fun s' I' => ⟨.bl (!o.isSome), H, I', rfl, q⟩
theorem toPs_any (d : D) (hd : d.laid = true) : ∀ ds : List D, D.laids ds = true → ((D.toPs ds).any fun z => PyData.eqv z d.toP) = ds.any fun z => D.eqv z d
  | [], _ => by simp [D.toPs]
  | x :: xs, h => by
    simp only [D.laids, Bool.and_eq_true] at h
    simp only [D.toPs, List.any_cons, toP_eqv x d h.1 hd, toPs_any d hd xs h.2]
theorem flat_rep {K : PySem.W.Frag} {F : Hp} {d : D} {v : V} (r : Rep K F d v) (f : d.flat = true) : flatV v = true ∧ ∀ (e : D) (u : V), e.isKey = true → Rep K F e u → flatV u = true ∧ eqV v u = D.eqv d e := by
  have two : ∀ (e : D) (u : V), e.isKey = true → Rep K F e u → (∃ i, e = .int i ∧ u = .int i) ∨ ∃ x, e = .str x ∧ u = .str x := fun e u h re => by
    cases e with
    | int j => exact .inl ⟨j, rfl, re⟩
    | str j => exact .inr ⟨j, rfl, re⟩
    | _ => cases h
  cases d with
  | int i =>
    simp only [Rep] at r
    subst r
    refine ⟨rfl, fun e u h re => ?_⟩
    rcases two e u h re with ⟨j, rfl, rfl⟩ | ⟨j, rfl, rfl⟩
    · exact ⟨rfl, by simp [eqV, D.eqv]⟩
    · exact ⟨rfl, by simp [eqV, D.eqv]⟩
  | str i =>
    simp only [Rep] at r
    subst r
    refine ⟨rfl, fun e u h re => ?_⟩
    rcases two e u h re with ⟨j, rfl, rfl⟩ | ⟨j, rfl, rfl⟩
    · exact ⟨rfl, by simp [eqV, D.eqv]⟩
    · exact ⟨rfl, by simp [eqV, D.eqv]⟩
  | non =>
    simp only [Rep] at r
    subst r
    refine ⟨rfl, fun e u h re => ?_⟩
    rcases two e u h re with ⟨j, rfl, rfl⟩ | ⟨j, rfl, rfl⟩
    · exact ⟨rfl, by simp [eqV, D.eqv]⟩
    · exact ⟨rfl, by simp [eqV, D.eqv]⟩
  | _ => cases f
end
end DL
end
section
set_option linter.all false
set_option maxRecDepth 100000
set_option maxHeartbeats 4000000
set_option autoImplicit false
namespace DL
open PySem L2 PySem.Spec PyProof.Rows
section
variable {X : Cx} {G : Gx}
theorem in_flat {K : PySem.W.Frag} {F : Hp} {x : D} {v : V} (rx : Rep K F x v) (hx : x.isKey = true) : ∀ {ds : List D} {vs : List V}, Reps K F ds vs → ds.all D.flat = true → vs.all flatV = true ∧ inV v vs = ds.any fun z => D.eqv z x
  | [], vs, r, _ => by simp only [Reps] at r; subst r; exact ⟨rfl, rfl⟩
  | d :: ds, vs, r, h => by
    simp only [Reps] at r
    obtain ⟨u, ws, rfl, r1, r2⟩ := r
    simp only [List.all_cons, Bool.and_eq_true] at h
    obtain ⟨f1, f2⟩ := flat_rep r1 h.1
    obtain ⟨_, f4⟩ := f2 x v hx rx
    obtain ⟨g1, g2⟩ := in_flat rx hx r2 h.2
    refine ⟨by rw [List.all_cons, f1, g1]; rfl, ?_⟩
    unfold inV at g2 ⊢
    rw [List.any_cons, List.any_cons, f4, g2]
/-- both of in and not in -/
theorem in_cases {H F : Hp} {x y : D} {v w : V} {b : Bool} (sF : Same F H) (px : Peek G.K H F x v) (py : Peek G.K H F y w) (e : opIn0 x y = some b) :
    (∃ d ds, Dp G.K H v d ∧ Dp G.K H w (.list ds) ∧ SeqAt.shaped d = true ∧ SeqAt.shaped (.list ds) = true ∧ (ds.any fun z => PyData.eqv z d) = b) ∨
    (∃ p xs, w = .ref p ∧ (SqL G.K H p xs ∨ SqT G.K H p xs) ∧ flatV v = true ∧ xs.all flatV = true ∧ inV v xs = b) ∨
    (∃ (c : Nat) (z : Str), v = .str ⟨#[c]⟩ ∧ w = .str z ∧ decide (c ∈ z.cps.toList) = b) ∨ ∃ a o, w = .ref a ∧ DGet H a v o ∧ o.isSome = b := by
  have dict : ∀ y', (dLook y' x).map (fun o => o.isSome) = some b → y' = y → ∃ a o, w = .ref a ∧ DGet H a v o ∧ o.isSome = b := fun y' ee ey => by
    subst ey
    obtain ⟨o, e1, e2⟩ := Option.map_eq_some_iff.mp ee
    obtain ⟨a, ov, rfl, g, k⟩ := look_get sF py px e1
    refine ⟨a, ov, rfl, g, ?_⟩
    cases o with
    | none => cases (show ov = none from k); exact e2
    | some d => obtain ⟨u, e3, _⟩ := (show ∃ u, ov = some u ∧ _ from k); subst e3; exact e2
  cases y with
  | lst ds =>
    simp only [opIn0] at e
    split at e
    · rename_i h
      obtain ⟨h1, h2, h3, h4⟩ := h
      obtain ⟨_, a, vs, rfl, ea, r⟩ := py.lst sF
      have p1 : Dp G.K H v x.toP := by
        have q := px.dp sF (d := x)
        cases x <;> first | exact q h1 | (simp [D.laid] at h1)
      refine .inl ⟨x.toP, D.toPs ds, p1, .lst (SqL.of ea) (reps_dp sF ds vs h2 r), ?_, ?_, ?_⟩
      · unfold SeqAt.shaped
        rw [toP_lay x h1, toP_dep x h1, decide_eq_true (by omega)]
        rfl
      · have l1 : (PyData.list (D.toPs ds)).canLay0 = true := by simp only [PyData.canLay0]; exact toPs_lay ds h2
        have l2 : (PyData.list (D.toPs ds)).depth = D.deps ds + 1 := by simp only [PyData.depth, toPs_dep ds h2]
        unfold SeqAt.shaped
        rw [l1, l2, decide_eq_true (by omega)]
        rfl
      · rw [toPs_any x h1 ds h2]
        exact Option.some.inj e
    · cases e
  | tup ds =>
    simp only [opIn0] at e
    split at e
    · rename_i h
      obtain ⟨h1, h2⟩ := h
      obtain ⟨_, a, vs, rfl, ea, r⟩ := py.tup
      have rx : Rep G.K F x v := by
        cases x with
        | int i => exact px.int
        | str i => exact px.str
        | _ => cases h1
      obtain ⟨g1, g2⟩ := in_flat rx h1 r h2
      have f : flatV v = true := by
        cases x with
        | int i => rw [px.int]; rfl
        | str i => rw [px.str]; rfl
        | _ => cases h1
      exact .inr (.inl ⟨a, vs, rfl, .inr (SqT.of (sF _ _ ea)), f, g1, g2.trans (Option.some.inj e)⟩)
    · cases e
  | str y =>
    cases x with
    | str x =>
      simp only [opIn0, inStr] at e
      split at e
      · rename_i h
        rw [px.str, py.str]
        obtain ⟨c, hc⟩ : ∃ c, x = ⟨#[c]⟩ := by
          obtain ⟨⟨l⟩⟩ := x
          have h : l.length = 1 := h
          match l, h with
          | [c], _ => exact ⟨c, rfl⟩
        subst hc
        exact .inr (.inr (.inl ⟨c, y, rfl, rfl, Option.some.inj e⟩))
      · cases e
    | _ => cases e
  | dct kvs => exact .inr (.inr (.inr (dict _ e rfl)))
  | dctT kvs => exact .inr (.inr (.inr (dict _ e rfl)))
  | _ => cases e
theorem o_in (hu : X.A.units + 65 < cLine) : ∃ r, OpR X (compareOp .In) r ∧ (X.K = G.K → Op2Ok G r opIn) := by
  refine ⟨_, OpR.or (op_inD hu) (OpR.or op_in_seq (OpR.or op_in_sign (op_inDict (by omega)))), fun hK H F x y v w z Q sF tb px py e k => ?_⟩
  obtain ⟨b, e1, e2⟩ := Option.map_eq_some_iff.mp (show (opIn0 x y).map _ = some z from e)
  subst e2
  have kk : Q (.bl b) H := k _ H F (GrowT.refl sF) rfl
  rw [hK]
  rcases in_cases sF px py e1 with ⟨d, ds, h1, h2, h3, h4, h5⟩ | ⟨p, xs, h1, h2, h3, h4, h5⟩ | ⟨c, s, h1, h2, h3⟩ | ⟨a, o, h1, h2, h3⟩
  · exact .inl ⟨d, ds, h1, h2, h3, h4, by rw [h5]; exact kk⟩
  · exact .inr (.inl ⟨p, xs, h1, h2, h3, h4, by rw [if_neg Bool.false_ne_true, h5]; exact kk⟩)
  · exact .inr (.inr (.inl ⟨c, s, h1, h2, by rw [h3]; exact kk⟩))
  · exact .inr (.inr (.inr ⟨a, o, h1, h2, by rw [h3]; exact kk⟩))
theorem o_notIn (hu : X.A.units + 65 < cLine) : ∃ r, OpR X (compareOp .NotIn) r ∧ (X.K = G.K → Op2Ok G r opNotIn) := by
  refine ⟨_, OpR.or (op_notInD hu) (OpR.or op_notIn_seq (OpR.or op_notIn_sign (op_notInDict (by omega)))), fun hK H F x y v w z Q sF tb px py e k => ?_⟩
  obtain ⟨b, e1, e2⟩ := Option.map_eq_some_iff.mp (show (opIn0 x y).map _ = some z from e)
  subst e2
  have kk : Q (.bl (!b)) H := k _ H F (GrowT.refl sF) rfl
  rw [hK]
  rcases in_cases sF px py e1 with ⟨d, ds, h1, h2, h3, h4, h5⟩ | ⟨p, xs, h1, h2, h3, h4, h5⟩ | ⟨c, s, h1, h2, h3⟩ | ⟨a, o, h1, h2, h3⟩
  · exact .inl ⟨d, ds, h1, h2, h3, h4, by rw [h5]; exact kk⟩
  · exact .inr (.inl ⟨p, xs, h1, h2, h3, h4, by rw [if_pos rfl, h5]; exact kk⟩)
  · exact .inr (.inr (.inl ⟨c, s, h1, h2, by rw [h3]; exact kk⟩))
  · exact .inr (.inr (.inr ⟨a, o, h1, h2, by rw [h3]; exact kk⟩))
/-! ### x[i] -/
theorem ixOf_eq (n : Nat) (i : Int) : ixOf n i = ixN n i := rfl
theorem Reps.at {K : PySem.W.Frag} {F : Hp} {ds : List D} {vs : List V} {i : Int} {d : D} (r : Reps K F ds vs) (e : atD ds i = some d) : ∃ v, atI vs i = some v ∧ Rep K F d v := by
  unfold atD at e
  rw [ixOf_eq] at e
  unfold atI
  rw [r.length]
  cases q : ixN ds.length i with
  | none => rw [q] at e; cases e
  | some j =>
    rw [q] at e
    exact r.get e
def rIxDict : R2 := fun x y H Q => ∃ a v, x = .ref a ∧ DGet H a y (some v) ∧ Q v H
theorem ix_dict (hu : X.A.units + 1 < cLine) : IxR X rIxDict := by
  intro value slice pins s σ H x y v u Q I rx ry h hs
  obtain ⟨a, z, rfl, g, q⟩ := h
  cases rx
  exact tail_any (dict_typeIs I g) PySem.F.slot_dict_getitem.lookup (d_getItem hu I g ry fun w' s' I' r' => ⟨z, H, I', r', q⟩) hs
theorem o_ix (hu : X.A.units + 1 < cLine) : ∃ r, IxR X r ∧ (X.K = G.K → Op2Ok G r opIx) := by
  refine ⟨_, IxR.or ix_seq (ix_dict hu), fun hK H F x y v w z Q sF tb px py e k => ?_⟩
  have dict : ∀ y', (dLook y' y).bind (fun o => o.map Rv.dat) = some z → y' = x → rIxDict v w H Q := fun y' ee ey => by
    subst ey
    obtain ⟨o, e1, e2⟩ := Option.bind_eq_some_iff.mp ee
    obtain ⟨d, e3, e4⟩ := Option.map_eq_some_iff.mp e2
    obtain ⟨a, ov, rfl, g, kk⟩ := look_get sF px py e1
    subst e3 e4
    obtain ⟨u, e5, r⟩ := (show ∃ u, ov = some u ∧ _ from kk)
    subst e5
    exact ⟨a, u, rfl, g, k _ H F (GrowT.refl sF) r⟩
  rw [hK]
  cases x with
  | lst ds =>
    cases y with
    | int i =>
      obtain ⟨d, e1, e2⟩ := Option.map_eq_some_iff.mp (show (atD ds i).map _ = some z from e)
      subst e2
      obtain ⟨_, a, vs, rfl, ea, r⟩ := px.lst sF
      obtain ⟨u, h1, h2⟩ := r.at e1
      rw [py.int]
      exact .inl (.inl ⟨a, vs, i, u, rfl, rfl, SqL.of ea, h1, k _ H F (GrowT.refl sF) h2⟩)
    | _ => cases e
  | tup ds =>
    cases y with
    | int i =>
      obtain ⟨d, e1, e2⟩ := Option.map_eq_some_iff.mp (show (atD ds i).map _ = some z from e)
      subst e2
      obtain ⟨_, a, vs, rfl, ea, r⟩ := px.tup
      obtain ⟨u, h1, h2⟩ := r.at e1
      rw [py.int]
      exact .inl (.inr (.inl ⟨a, vs, i, u, rfl, rfl, SqT.of (sF _ _ ea), h1, k _ H F (GrowT.refl sF) h2⟩))
    | _ => cases e
  | scr ns =>
    cases y with
    | int i =>
      obtain ⟨d, e1, e2⟩ := Option.map_eq_some_iff.mp (show (atD ns i).map _ = some z from e)
      subst e2
      obtain ⟨_, a, rfl, s⟩ := px.scr sF
      rw [py.int]
      have h1 : atI (ns.map V.int) i = some (.int d) := by
        unfold atD at e1
        rw [ixOf_eq] at e1
        unfold atI
        rw [List.length_map]
        cases q : ixN ns.length i with
        | none => rw [q] at e1; cases e1
        | some j =>
          rw [q] at e1
          have e1 : ns[j]? = some d := e1
          show (ns.map V.int)[j]? = _
          rw [List.getElem?_map, e1]
          rfl
      exact .inl (.inl ⟨a, _, i, .int d, rfl, rfl, s, h1, k _ H F (GrowT.refl sF) rfl⟩)
    | _ => cases e
  | str x =>
    cases y with
    | int i =>
      simp only [opIx] at e
      split at e
      · rename_i hz
        obtain ⟨d, e1, e2⟩ := Option.map_eq_some_iff.mp e
        subst e2
        rw [px.str, py.int]
        exact .inl (.inr (.inr ⟨x, i, d, rfl, rfl, by rw [← sizeL_eq]; exact hz, e1, k _ H F (GrowT.refl sF) rfl⟩))
      · cases e
    | _ => cases e
  | dct kvs => exact .inr (dict (.dct kvs) (by simpa only [opIx] using e) rfl)
  | dctT kvs => exact .inr (dict (.dctT kvs) (by simpa only [opIx] using e) rfl)
  | _ => cases e
theorem de_ix {a b : Expr} {pos : Pos} {W : WX} {ma mb : ME} (hK : X.K = G.K) (hu : X.A.units + 1 < cLine) (ha : DE X G W a ma) (hb : DE X G W b mb) (hs : PlainIx b) : DE X G W (.Subscript a b pos) (mBin opIx ma mb) := by
  obtain ⟨r, h1, h2⟩ := o_ix (X := X) (G := G) hu
  exact (pe_ix h1 ha hb hs).mono fun σ H Q q => te_bin (h2 hK) q
/-! ### operators as judgements -/
theorem de_op {op : Operator} {f : D → D → Option Rv} {ma mb : ME} {a b : Expr} {pos : Pos} {W : WX} (h : ∃ r, OpR X (binaryOp op) r ∧ Op2Ok G r f) (ha : DE X G W a ma) (hb : DE X G W b mb) : DE X G W (.BinOp a op b pos) (mBin f ma mb) := by
  obtain ⟨r, h1, h2⟩ := h
  exact de_bin h1 h2 ha hb
theorem de_cmp {op : CmpOp} {f : D → D → Option Rv} {ma mb : ME} {a b : Expr} {pos : Pos} {W : WX} (h : ∃ r, OpR X (compareOp op) r ∧ Op2Ok G r f) (ha : DE X G W a ma) (hb : DE X G W b mb) (hm : behindInMarks op b = false) : DE X G W (.Compare a [op] [b] pos) (mBin f ma mb) := by
  obtain ⟨r, h1, h2⟩ := h
  exact (pe_cmpR h1 ha hb hm).mono fun σ H Q q => te_bin h2 q
theorem c_add (hK : X.K = G.K) : ∃ r, OpR X (binaryOp .Add) r ∧ Op2Ok G r opAdd := let ⟨r, h1, h2⟩ := o_add (X := X) (G := G); ⟨r, h1, h2 hK⟩
theorem c_sub : ∃ r, OpR X (binaryOp .Sub) r ∧ Op2Ok G r opSub := ⟨_, op_sub, o_sub⟩
theorem c_mul (hK : X.K = G.K) : ∃ r, OpR X (binaryOp .Mult) r ∧ Op2Ok G r opMul := let ⟨r, h1, h2⟩ := o_mul (X := X) (G := G); ⟨r, h1, h2 hK⟩
theorem c_fdiv : ∃ r, OpR X (binaryOp .FloorDiv) r ∧ Op2Ok G r opFdiv := ⟨_, op_fdivW, o_fdiv⟩
theorem c_mod : ∃ r, OpR X (binaryOp .Mod) r ∧ Op2Ok G r opMod := ⟨_, op_mod, o_mod⟩
theorem c_eq (hK : X.K = G.K) (hu : X.A.units + 64 < cLine) : ∃ r, OpR X (compareOp .Eq) r ∧ Op2Ok G r opEq := ⟨_, op_eqM hu, by rw [hK]; exact o_eq⟩
theorem c_ne (hK : X.K = G.K) (hu : X.A.units + 64 < cLine) : ∃ r, OpR X (compareOp .NotEq) r ∧ Op2Ok G r opNe := ⟨_, op_neM hu, by rw [hK]; exact o_ne⟩
theorem c_in (hK : X.K = G.K) (hu : X.A.units + 65 < cLine) : ∃ r, OpR X (compareOp .In) r ∧ Op2Ok G r opIn := let ⟨r, h1, h2⟩ := o_in (X := X) (G := G) hu; ⟨r, h1, h2 hK⟩
theorem c_notIn (hK : X.K = G.K) (hu : X.A.units + 65 < cLine) : ∃ r, OpR X (compareOp .NotIn) r ∧ Op2Ok G r opNotIn := let ⟨r, h1, h2⟩ := o_notIn (X := X) (G := G) hu; ⟨r, h1, h2 hK⟩
end
end DL
end
section
set_option linter.all false
set_option maxRecDepth 100000
set_option maxHeartbeats 4000000
set_option autoImplicit false
namespace DL
open PySem L2 PySem.Spec PyProof.Rows
section
variable {X : Cx} {G : Gx} {W : WX} {H0 F0 H F H1 F1 : Hp} {sl sl1 : Sl} {σ : L2.St}
/-! ### arguments -/
theorem RvOk.on' {r : Rv} {v : V} (n : ∀ d, r ≠ .new d) (h : RvOk G H0 H F sl σ r v) (s : Same F F1) : RvOk G H0 H1 F1 sl1 σ r v := by
  cases r with
  | dat d => exact Rep.mono s _ _ h
  | new d => exact absurd rfl (n d)
  | slot i => exact h
theorem fix_new (r : Rv) : ∀ d, r.fix ≠ .new d := fun d e => by cases r <;> cases e
theorem da_nil : DA X G W [] maNil := pa_nil.mono fun σ H Q ⟨H0, F0, F, sl, S, q⟩ => q [] H F S (Same.refl F) .nil
theorem ta_cons {m : ME} {mm : MA} {Q : List V → Hp → Prop} (q : TAd G W (maCons m mm) σ H Q) : TEd G W m σ H fun x H1 => TAd G W mm σ H1 fun xs H2 => Q (x :: xs) H2 := by
  obtain ⟨H0, F0, F, sl, S, q⟩ := q
  unfold maCons at q
  refine TEd.go S (fun c sl1 e => ?_) (fun e => ?_) fun r sl1 v H1 F1 e S1 s1 R1 => ?_
  · rw [e] at q; exact q
  · rw [e] at q; exact q
  · rw [e] at q
    obtain ⟨F1', S1', s1', R1'⟩ := R1.fix S1
    refine ⟨H0, F0, F1', sl1, S1', ?_⟩
    dsimp only at q
    cases e2 : mm sl1 with
    | ok rs sl2 =>
      rw [e2] at q
      exact fun vs H2 F2 S2 s2 R2 => q (v :: vs) H2 F2 S2 ((s1.trans s1').trans s2) (.cons (R1'.on s2) R2)
    | exc c sl2 =>
      rw [e2] at q
      exact XPost.on q (s1.trans s1')
    | bad => rw [e2] at q; exact q
theorem da_cons {e : Expr} {es : List Expr} {m : ME} {mm : MA} (he : DE X G W e m) (hs : DA X G W es mm) (h : starEach (e :: es) X.env = (false, eval e X.env) :: starEach es X.env := by rfl) : DA X G W (e :: es) (maCons m mm) :=
  (pa_cons he hs h).mono fun σ H Q q => ta_cons q
abbrev Peeks (K : PySem.W.Frag) (H F : Hp) : List D → List V → Prop := Paired (Peek K H F)
theorem getAll_ok (S : SR G H0 F0 sl σ H F) : ∀ {rs : List Rv} {vs : List V} {ds : List D}, Paired (RvOk G H0 H F sl σ) rs vs → getAll sl rs = some ds → Peeks G.K H F ds vs
  | [], _, ds, .nil, e => by
    cases e
    exact .nil
  | r :: rs, v :: vs, ds, .cons h t, e => by
    obtain ⟨d, e1, e2⟩ := Option.bind_eq_some_iff.mp (show (r.get sl).bind _ = some ds from e)
    obtain ⟨ds', e3, e4⟩ := Option.map_eq_some_iff.mp e2
    subst e4
    exact .cons (h.peek S e1) (getAll_ok S t e3)
/-- a call of a built-in of plain data -/
def OpNOk (G : Gx) (r : List V → Hp → VK → Prop) (f : List D → Option Rv) : Prop := ∀ (H F : Hp) (ds : List D) (vs : List V) (z : Rv) (Q : VK), Same F H → LamX.Tabs G.T H → Peeks G.K H F ds vs → f ds = some z →
  (∀ u H' F', GrowT G F H F' H' → ResOk G.K H H' F' z u → Q u H') → r vs H Q
theorem te_opN {r : List V → Hp → VK → Prop} {f : List D → Option Rv} {mm : MA} (ho : OpNOk G r f) {Q : VK} (q : TEd G W (mOp f mm) σ H Q) : TAd G W mm σ H fun vs H1 => r vs H1 Q := by
  obtain ⟨H0, F0, F, sl, S, q⟩ := q
  refine ⟨H0, F0, F, sl, S, ?_⟩
  unfold mOp at q
  cases e : mm sl with
  | exc c sl1 => rw [e] at q; exact q
  | bad => rw [e] at q; exact q
  | ok rs sl1 =>
    rw [e] at q
    dsimp only at q
    intro vs H1 F1 S1 s1 R1
    cases e1 : getAll sl1 rs with
    | none => rw [e1] at q; exact q.elim
    | some ds =>
      rw [e1] at q
      dsimp only at q
      cases e2 : f ds with
      | none => rw [e2] at q; exact q.elim
      | some z =>
        rw [e2] at q
        exact ho H1 F1 ds vs z Q S1.sub S1.tabs (getAll_ok S1 R1 e1) e2 fun u H' F' g h => EPost.op S1 (EPost.on q s1) g h
theorem OpNOk.or {r r' : List V → Hp → VK → Prop} {f : List D → Option Rv} (h : ∀ (H F : Hp) (ds : List D) (vs : List V) (z : Rv) (Q : VK), Same F H → LamX.Tabs G.T H → Peeks G.K H F ds vs → f ds = some z →
    (∀ u H' F', GrowT G F H F' H' → ResOk G.K H H' F' z u → Q u H') → r vs H Q ∨ r' vs H Q) : OpNOk G (fun vs H Q => r vs H Q ∨ r' vs H Q) f := h
/-! ### displays -/
theorem frz_ok (S : SR G H0 F0 sl σ H F) {r : Rv} {v : V} {d : D} {sl2 : Sl} (h : RvOk G H0 H F sl σ r v) (e : frz r sl = some (d, sl2)) :
    ∃ F', SR G H0 F0 sl2 σ H F' ∧ Same F F' ∧ Rep G.K F' d v := by
  cases r with
  | dat d' =>
    cases e
    exact ⟨F, S, Same.refl F, h⟩
  | new d' =>
    cases e
    obtain ⟨F', S', s', R'⟩ := RvOk.fix S h
    exact ⟨F', S', s', R'⟩
  | slot i =>
    have h : σ[i]? = some (some v) := h
    simp only [frz] at e
    split at e
    · rename_i d' q
      cases e
      obtain ⟨u, e1, r1⟩ := S.rel i _ q
      rw [h] at e1
      cases e1
      exact ⟨F, S, Same.refl F, r1⟩
    · rename_i d' q
      cases e
      obtain ⟨a, F', e1, s', R', S'⟩ := S.freeze q
      rw [h] at e1
      cases e1
      exact ⟨F', S', s', R'⟩
    · cases e
theorem frzAll_ok : ∀ {rs : List Rv} {vs : List V} {ds : List D} {sl sl2 : Sl} {F : Hp}, SR G H0 F0 sl σ H F → (∀ r ∈ rs, ∀ d, r ≠ .new d) → Paired (RvOk G H0 H F sl σ) rs vs → frzAll rs sl = some (ds, sl2) →
    ∃ F', SR G H0 F0 sl2 σ H F' ∧ Same F F' ∧ Reps G.K F' ds vs
  | [], _, ds, sl, sl2, F, S, _, .nil, e => by
    cases e
    exact ⟨F, S, Same.refl F, rfl⟩
  | r :: rs, v :: vs, ds, sl, sl2, F, S, nn, .cons h t, e => by
    obtain ⟨⟨d, sl1⟩, e1, e2⟩ := Option.bind_eq_some_iff.mp (show (frz r sl).bind _ = some (ds, sl2) from e)
    obtain ⟨⟨ds', sl2'⟩, e3, e4⟩ := Option.map_eq_some_iff.mp e2
    cases e4
    obtain ⟨F1, S1, s1, R1⟩ := frz_ok S h e1
    have t1 : Paired (RvOk G H0 H F1 sl1 σ) rs vs := by
      have go : ∀ {rs : List Rv} {vs : List V}, (∀ r ∈ rs, ∀ d, r ≠ .new d) → Paired (RvOk G H0 H F sl σ) rs vs → Paired (RvOk G H0 H F1 sl1 σ) rs vs := by
        intro rs vs nn p
        induction p with
        | nil => exact .nil
        | cons h _ ih => exact .cons (h.on' (nn _ List.mem_cons_self) s1) (ih fun r hr => nn r (List.mem_cons_of_mem _ hr))
      exact go (fun r hr => nn r (List.mem_cons_of_mem _ hr)) t
    obtain ⟨F2, S2, s2, R2⟩ := frzAll_ok S1 (fun r hr => nn r (List.mem_cons_of_mem _ hr)) t1 e3
    exact ⟨F2, S2, s1.trans s2, v, vs, rfl, Rep.mono s2 _ _ R1, R2⟩
/-- an argument list tells nothing new: it was fixed -/
def Fixed (mm : MA) : Prop := ∀ sl rs sl1, mm sl = .ok rs sl1 → ∀ r ∈ rs, ∀ d, r ≠ .new d
theorem fixed_nil : Fixed maNil := fun sl rs sl1 e => by
  cases e
  intro r hr
  cases hr
theorem fixed_cons {m : ME} {mm : MA} (h : Fixed mm) : Fixed (maCons m mm) := fun sl rs sl1 e r hr d => by
  unfold maCons at e
  cases q : m sl with
  | exc c sl2 => rw [q] at e; cases e
  | bad => rw [q] at e; cases e
  | ok r' sl2 =>
    rw [q] at e
    dsimp only at e
    cases q2 : mm sl2 with
    | exc c sl3 => rw [q2] at e; cases e
    | bad => rw [q2] at e; cases e
    | ok rs' sl3 =>
      rw [q2] at e
      cases e
      rcases List.mem_cons.mp hr with rfl | hr
      · exact fix_new _ d
      · exact h _ _ _ q2 r hr d
theorem de_tup {es : List Expr} {mm : MA} {k pos} (h : DA X G W es mm) (hf : Fixed mm) : DE X G W (.Tuple es k pos) (mTup mm) := by
  refine (pe_tup h).mono fun σ H Q ⟨H0, F0, F, sl, S, q⟩ => ⟨H0, F0, F, sl, S, ?_⟩
  unfold mTup at q
  cases e : mm sl with
  | exc c sl1 => rw [e] at q; exact q
  | bad => rw [e] at q; exact q
  | ok rs sl1 =>
    rw [e] at q
    dsimp only at q
    intro vs H1 F1 S1 s1 R1
    cases e1 : frzAll rs sl1 with
    | none => rw [e1] at q; exact q.elim
    | some p =>
      obtain ⟨ds, sl2⟩ := p
      rw [e1] at q
      dsimp only at q
      split at q
      · rename_i hz
        obtain ⟨F2, S2, s2, R2⟩ := frzAll_ok S1 (hf _ _ _ e) R1 e1
        rw [sizeL_eq] at hz
        refine ⟨by rw [R2.length]; exact hz, fun p hp => EPost.op S2 (EPost.on q (s1.trans s2)) (GrowT.allocF S2.sub _ hp) (show Rep _ _ (.tup ds) _ from ?_)⟩
        simp only [Rep]
        exact ⟨hz, p, vs, rfl, upd_same, Reps.mono (Grow.allocF S2.sub _ hp).fsub _ _ R2⟩
      · exact q.elim
theorem notF {p : Addr} (s : Same F H) (hp : H p = none) : F p = none := by
  cases e : F p with
  | none => rfl
  | some o => rw [s _ _ e] at hp; cases hp
theorem de_lst {es : List Expr} {mm : MA} {pos} (h : DA X G W es mm) (hf : Fixed mm) : DE X G W (.List es pos) (mLst mm) := by
  refine (pe_lst h).mono fun σ H Q ⟨H0, F0, F, sl, S, q⟩ => ⟨H0, F0, F, sl, S, ?_⟩
  unfold mLst at q
  cases e : mm sl with
  | exc c sl1 => rw [e] at q; exact q
  | bad => rw [e] at q; exact q
  | ok rs sl1 =>
    rw [e] at q
    dsimp only at q
    intro vs H1 F1 S1 s1 R1
    cases e1 : frzAll rs sl1 with
    | none => rw [e1] at q; exact q.elim
    | some p =>
      obtain ⟨ds, sl2⟩ := p
      rw [e1] at q
      dsimp only at q
      split at q
      · rename_i hz
        obtain ⟨F2, S2, s2, R2⟩ := frzAll_ok S1 (hf _ _ _ e) R1 e1
        rw [sizeL_eq] at hz
        exact ⟨by rw [R2.length]; exact hz, fun p hp => EPost.op S2 (EPost.on q (s1.trans s2)) (GrowT.alloc S2.sub _ hp) ⟨p, rfl, notF S2.sub hp, hp, hz, vs, upd_same, R2⟩⟩
      · exact q.elim
/-! ### tests -/
theorem TTd.go {m : MT} {R : Bool → Hp → Prop} (S : SR G H0 F0 sl σ H F) (hx : ∀ c sl1, m sl = .exc c sl1 → XPost G W H0 F0 F σ c sl1) (hb : m sl ≠ .bad)
    (i : ∀ b sl1 H1 F1, m sl = .ok b sl1 → SR G H0 F0 sl1 σ H1 F1 → Same F F1 → R b H1) : TTd G W m σ H R := by
  refine ⟨H0, F0, F, sl, S, ?_⟩
  cases e : m sl with
  | ok r sl1 => exact fun H1 F1 S1 s1 => i r sl1 H1 F1 e S1 s1
  | exc c sl1 => exact hx c sl1 e
  | bad => exact (hb e).elim
/-- a value that is a truth -/
theorem tt_val {m : ME} {Q : Bool → Hp → Prop} (q : TTd G W (mtVal m) σ H Q) : TEd G W m σ H fun x H1 => ∃ c, x = .bl c ∧ Q c H1 := by
  obtain ⟨H0, F0, F, sl, S, q⟩ := q
  unfold mtVal at q
  refine TEd.go S (fun c sl1 e => ?_) (fun e => ?_) fun r sl1 v H1 F1 e S1 s1 R1 => ?_
  · rw [e] at q; exact q
  · rw [e] at q; exact q
  · rw [e] at q
    dsimp only at q
    cases e1 : r.get sl1 with
    | none => rw [e1] at q; exact q.elim
    | some d =>
      rw [e1] at q
      cases d with
      | bl b =>
        have p := R1.peek S1 e1
        exact ⟨b, p.bl, q H1 F1 S1 s1⟩
      | _ => exact q.elim
theorem dt_val {e : Expr} {m : ME} (h : DE X G W e m) (he : ∀ whole, isTrue e X.env whole = (do let v ← whole; standAt e.pos; holding [v] (truthy v)) := by intro _; rfl) : DT X G W e (mtVal m) :=
  (pt_val h he).mono fun σ H Q q => tt_val q
/-- a comparison as a test -/
theorem dt_cmp {op : CmpOp} {f : D → D → Option Rv} {ma mb : ME} {a b : Expr} {pos : Pos} (h : ∃ r, OpR X (compareOp op) r ∧ Op2Ok G r f) (ha : DE X G W a ma) (hb : DE X G W b mb) (hm : behindInMarks op b = false) : DT X G W (.Compare a [op] [b] pos) (mtVal (mBin f ma mb)) := by
  obtain ⟨r, h1, h2⟩ := h
  exact (pt_cmpR h1 ha hb hm).mono fun σ H Q q => te_bin h2 (tt_val q)
theorem tt_bind {t : MT} {k : Bool → Sl → TOut} {Q : Bool → Hp → Prop} {R : Bool → Hp → Prop} (S : SR G H0 F0 sl σ H F) (q : TPost G W H0 F0 F σ Q ((t sl).bind k))
    (i : ∀ b sl1 H1 F1, SR G H0 F0 sl1 σ H1 F1 → TPost G W H0 F0 F1 σ Q (k b sl1) → R b H1) : TTd G W t σ H R := by
  refine TTd.go S (fun c sl1 e => ?_) (fun e => ?_) fun b sl1 H1 F1 e S1 s1 => ?_
  · rw [e] at q; exact q
  · rw [e] at q; exact q
  · rw [e] at q
    exact i b sl1 H1 F1 S1 (TPost.on q s1)
theorem dt_not {a : Expr} {t : MT} {pos : Pos} (h : DT X G W a t) : DT X G W (.UnaryOp .Not a pos) (mtNot t) :=
  (pt_not h).mono fun σ H Q ⟨H0, F0, F, sl, S, q⟩ => tt_bind S q fun b sl1 H1 F1 S1 q1 => q1 H1 F1 S1 (Same.refl _)
/-- and, or: whatever stands around -/
abbrev DW (X : Cx) (G : Gx) (W : WX) (e : Expr) (m : MT) : Prop := PW X e (TTd G W m)
theorem _root_.L2.PW.mono {X : Cx} {e : Expr} {t t' : TT} (h : PW X e t) (i : ∀ σ H Q, t' σ H Q → t σ H Q) : PW X e t' := ⟨fun wh pins s σ H Q I q => h.run wh pins s σ H Q I (i σ H Q q)⟩
theorem dw_and1 {a : Expr} {t : MT} {pos : Pos} (h : DT X G W a t) : DW X G W (.BoolOp .And [a] pos) t := pw_and1 h
theorem dw_or1 {a : Expr} {t : MT} {pos : Pos} (h : DT X G W a t) : DW X G W (.BoolOp .Or [a] pos) t := pw_or1 h
theorem dw_and {a b : Expr} {es : List Expr} {t u : MT} {pos : Pos} (h : DT X G W a t) (k : DW X G W (.BoolOp .And (b :: es) pos) u) : DW X G W (.BoolOp .And (a :: b :: es) pos) (mtAnd t u) :=
  (pw_and h k).mono fun σ H Q ⟨H0, F0, F, sl, S, q⟩ => tt_bind S q fun b sl1 H1 F1 S1 q1 => by
    cases b with
    | true => rw [if_pos rfl] at q1 ⊢; exact ⟨H0, F0, F1, sl1, S1, q1⟩
    | false => rw [if_neg Bool.false_ne_true] at q1 ⊢; exact q1 H1 F1 S1 (Same.refl _)
theorem dw_or {a b : Expr} {es : List Expr} {t u : MT} {pos : Pos} (h : DT X G W a t) (k : DW X G W (.BoolOp .Or (b :: es) pos) u) : DW X G W (.BoolOp .Or (a :: b :: es) pos) (mtOr t u) :=
  (pw_or h k).mono fun σ H Q ⟨H0, F0, F, sl, S, q⟩ => tt_bind S q fun b sl1 H1 F1 S1 q1 => by
    cases b with
    | false => rw [if_neg Bool.false_ne_true] at q1 ⊢; exact ⟨H0, F0, F1, sl1, S1, q1⟩
    | true => rw [if_pos rfl] at q1 ⊢; exact q1 H1 F1 S1 (Same.refl _)
theorem dt_w {e : Expr} {m : MT} (h : DW X G W e m) : DT X G W e m := h.pt
theorem tt_ebind {t : MT} {k : Bool → Sl → EOut} {Q : VK} {R : Bool → Hp → Prop} (S : SR G H0 F0 sl σ H F) (q : EPost G W H0 F0 F σ Q ((t sl).ebind k))
    (i : ∀ b sl1 H1 F1, SR G H0 F0 sl1 σ H1 F1 → EPost G W H0 F0 F1 σ Q (k b sl1) → R b H1) : TTd G W t σ H R := by
  refine TTd.go S (fun c sl1 e => ?_) (fun e => ?_) fun b sl1 H1 F1 e S1 s1 => ?_
  · rw [e] at q; exact q
  · rw [e] at q; exact q
  · rw [e] at q
    exact i b sl1 H1 F1 S1 (EPost.on q s1)
theorem de_if {c a b : Expr} {t : MT} {ma mb : ME} {pos : Pos} (hc : DT X G W c t) (ha : DE X G W a ma) (hb : DE X G W b mb) : DE X G W (.IfExp c a b pos) (mIf t ma mb) :=
  (pe_ifExp hc ha hb).mono fun σ H Q ⟨H0, F0, F, sl, S, q⟩ => tt_ebind S q fun b sl1 H1 F1 S1 q1 => by
    cases b with
    | true => rw [if_pos rfl] at q1 ⊢; exact ⟨H0, F0, F1, sl1, S1, q1⟩
    | false => rw [if_neg Bool.false_ne_true] at q1 ⊢; exact ⟨H0, F0, F1, sl1, S1, q1⟩
/-! ### and, or, not as values -/
theorem de_one {op : BoolOp} {a : Expr} {m : ME} {pos : Pos} (h : DE X G W a m) : DE X G W (.BoolOp op [a] pos) m := pe_one h
theorem te_val {m : ME} {k : Bool → Sl → EOut} {Q : VK} {R : Bool → Hp → Prop} (S : SR G H0 F0 sl σ H F) (q : EPost G W H0 F0 F σ Q ((mtVal m sl).ebind k))
    (i : ∀ b sl1 H1 F1, SR G H0 F0 sl1 σ H1 F1 → EPost G W H0 F0 F1 σ Q (k b sl1) → R b H1) : TEd G W m σ H fun x H1 => ∃ c, x = .bl c ∧ R c H1 := tt_val (tt_ebind S q i)
theorem de_and {a b : Expr} {es : List Expr} {ma mb : ME} {pos : Pos} (h : DE X G W a ma) (k : DE X G W (.BoolOp .And (b :: es) pos) mb) : DE X G W (.BoolOp .And (a :: b :: es) pos) (mAnd ma mb) :=
  (pe_and h k).mono fun σ H Q ⟨H0, F0, F, sl, S, q⟩ => te_val S q fun b sl1 H1 F1 S1 q1 => by
    cases b with
    | true => rw [if_pos rfl] at q1 ⊢; exact ⟨H0, F0, F1, sl1, S1, q1⟩
    | false => rw [if_neg Bool.false_ne_true] at q1 ⊢; exact q1 _ H1 F1 S1 (Same.refl _) rfl
theorem de_or {a b : Expr} {es : List Expr} {ma mb : ME} {pos : Pos} (h : DE X G W a ma) (k : DE X G W (.BoolOp .Or (b :: es) pos) mb) : DE X G W (.BoolOp .Or (a :: b :: es) pos) (mOr ma mb) :=
  (pe_or h k).mono fun σ H Q ⟨H0, F0, F, sl, S, q⟩ => te_val S q fun b sl1 H1 F1 S1 q1 => by
    cases b with
    | false => rw [if_neg Bool.false_ne_true] at q1 ⊢; exact ⟨H0, F0, F1, sl1, S1, q1⟩
    | true => rw [if_pos rfl] at q1 ⊢; exact q1 _ H1 F1 S1 (Same.refl _) rfl
theorem de_not {a : Expr} {ma : ME} {pos : Pos} (h : DE X G W a ma) : DE X G W (.UnaryOp .Not a pos) (mNot ma) :=
  (pe_not h).mono fun σ H Q ⟨H0, F0, F, sl, S, q⟩ => te_val S q fun b sl1 H1 F1 S1 q1 => q1 _ H1 F1 S1 (Same.refl _) rfl
end
end DL
end
section
set_option linter.all false
set_option maxRecDepth 100000
set_option maxHeartbeats 4000000
set_option autoImplicit false
namespace DL
open PySem L2 PySem.Spec PyProof.Rows
section
variable {X : Cx} {G : Gx} {W : WX} {H0 F0 H F H1 F1 : Hp} {sl sl1 : Sl} {σ : L2.St}
/-! ### a < b < c -/
theorem te_chain {r r' : R2} {f g : D → D → Option Rv} {ma mb mc : ME} (ho : Op2Ok G r f) (hg : Op2Ok G r' g) {Q : VK} (q : TEd G W (mChain f g ma mb mc) σ H Q) : tChain r r' (TEd G W ma) (TEd G W mb) (TEd G W mc) σ H Q := by
  obtain ⟨H0, F0, F, sl, S, q⟩ := q
  refine TEd.bind S q fun ra sl1 v H1 F1 S1 s1 R1 q1 => ?_
  obtain ⟨F1', S1', s1', R1'⟩ := R1.fix S1
  refine TEd.bind S1' (EPost.on q1 s1') fun rb sl2 w H2 F2 S2 s2 R2 q2 => ?_
  obtain ⟨F2', S2', s2', R2'⟩ := R2.fix S2
  have R1'' : RvOk G H0 H2 F2' sl2 σ ra.fix v := R1'.on (s2.trans s2')
  have q3 := EPost.on q2 s2'
  cases e1 : ra.fix.get sl2 with
  | none => rw [e1] at q3; exact q3.elim
  | some x =>
    cases e2 : rb.fix.get sl2 with
    | none => rw [e1, e2] at q3; exact q3.elim
    | some y =>
      rw [e1, e2] at q3
      dsimp only at q3
      split at q3
      · rename_i e3
        refine ho H2 F2' x y v w _ _ S2'.sub S2'.tabs (R1''.peek S2' e1) (R2'.peek S2' e2) e3 fun u H3 F3 g3 h3 => ⟨true, h3, ?_⟩
        rw [if_pos rfl]
        have S3 := S2'.to g3.1 (g3.2 S2'.tabs)
        refine TEd.bind S3 (EPost.on q3 g3.1.fsub) fun rc sl3 z H4 F4 S4 s4 R4 q4 => ?_
        obtain ⟨F4', S4', s4', R4'⟩ := R4.fix S4
        have R2'' : RvOk G H0 H4 F4' sl3 σ rb.fix w := R2'.on ((g3.1.fsub.trans s4).trans s4')
        have q5 := EPost.on q4 s4'
        cases e4 : rb.fix.get sl3 with
        | none => rw [e4] at q5; exact q5.elim
        | some y' =>
          cases e5 : rc.fix.get sl3 with
          | none => rw [e4, e5] at q5; exact q5.elim
          | some z' =>
            cases e6 : g y' z' with
            | none => simp only [e4, e5, e6] at q5; exact q5.elim
            | some t =>
              simp only [e4, e5, e6] at q5
              exact hg H4 F4' y' z' w z t Q S4'.sub S4'.tabs (R2''.peek S4' e4) (R4'.peek S4' e5) e6 fun u H' F' g' h' => EPost.op S4' q5 g' h'
      · rename_i e3
        refine ho H2 F2' x y v w _ _ S2'.sub S2'.tabs (R1''.peek S2' e1) (R2'.peek S2' e2) e3 fun u H3 F3 g3 h3 => ⟨false, h3, ?_⟩
        rw [if_neg Bool.false_ne_true]
        have h3 : u = .bl false := h3
        exact EPost.op S2' q3 g3 (show ResOk G.K H2 H3 F3 (.dat (.bl false)) (.bl false) from rfl)
      · exact q3.elim
theorem de_chain {op op' : CmpOp} {f g : D → D → Option Rv} {ma mb mc : ME} {a b c : Expr} {pos : Pos} (h : ∃ r, OpR X (compareOp op) r ∧ Op2Ok G r f) (h' : ∃ r, OpR X (compareOp op') r ∧ Op2Ok G r g) (ha : DE X G W a ma) (hb : DE X G W b mb) (hc : DE X G W c mc)
    (hm : lastMarks [op, op'] [b, c] = false := by with_unfolding_all rfl) : DE X G W (.Compare a [op, op'] [b, c] pos) (mChain f g ma mb mc) := by
  obtain ⟨r, h1, h2⟩ := h
  obtain ⟨r', h3, h4⟩ := h'
  exact (pe_chain h1 h3 ha hb hc hm).mono fun σ H Q q => te_chain h2 h4 q
theorem dt_chain {op op' : CmpOp} {f g : D → D → Option Rv} {ma mb mc : ME} {a b c : Expr} {pos : Pos} (h : ∃ r, OpR X (compareOp op) r ∧ Op2Ok G r f) (h' : ∃ r, OpR X (compareOp op') r ∧ Op2Ok G r g) (ha : DE X G W a ma) (hb : DE X G W b mb) (hc : DE X G W c mc)
    (hm : lastMarks [op, op'] [b, c] = false := by with_unfolding_all rfl) : DT X G W (.Compare a [op, op'] [b, c] pos) (mtVal (mChain f g ma mb mc)) := by
  obtain ⟨r, h1, h2⟩ := h
  obtain ⟨r', h3, h4⟩ := h'
  exact (pt_chain h1 h3 ha hb hc hm).mono fun σ H Q q => te_chain h2 h4 (tt_val q)
/-! ### one operand -/
def Op1Ok (G : Gx) (r : V → Hp → VK → Prop) (f : D → Option Rv) : Prop := ∀ (H F : Hp) (x : D) (v : V) (z : Rv) (Q : VK), Same F H → LamX.Tabs G.T H → Peek G.K H F x v → f x = some z →
  (∀ u H' F', GrowT G F H F' H' → ResOk G.K H H' F' z u → Q u H') → r v H Q
theorem te_un {r : V → Hp → VK → Prop} {f : D → Option Rv} {m : ME} (ho : Op1Ok G r f) {Q : VK} (q : TEd G W (mUn f m) σ H Q) : TEd G W m σ H fun x H1 => r x H1 Q := by
  obtain ⟨H0, F0, F, sl, S, q⟩ := q
  refine TEd.bind S q fun ra sl1 v H1 F1 S1 s1 R1 q1 => ?_
  cases e1 : ra.get sl1 with
  | none => rw [e1] at q1; exact q1.elim
  | some x =>
    cases e2 : f x with
    | none => simp only [e1, e2] at q1; exact q1.elim
    | some z =>
      simp only [e1, e2] at q1
      exact ho H1 F1 x v z Q S1.sub S1.tabs (R1.peek S1 e1) e2 fun u H' F' g h => EPost.op S1 q1 g h
theorem de_neg {a : Expr} {m : ME} {pos : Pos} (h : DE X G W a m) : DE X G W (.UnaryOp .USub a pos) (mUn opNeg m) :=
  (pe_un un_neg h).mono fun σ H Q q => te_un (fun H F x v z Q sF tb px e k => by
    unfold opNeg at e
    split at e
    · cases e
      rw [px.int]
      exact ⟨_, rfl, k _ H F (GrowT.refl sF) rfl⟩
    · cases e) q
theorem de_rev {e : Expr} {m : ME} {k : Nat} {p1 p2 p3 pos : Pos} (hK : X.K = G.K) (h : DE X G W e m) : DE X G W (.Subscript e (.Slice none none (some (.UnaryOp .USub (.Constant (.int 1) k p1) p2)) p3) pos) (mUn opRev m) :=
  (pe_revL h).mono fun σ H Q q => te_un (r := fun x H1 Q => ∃ a xs, x = .ref a ∧ SqL X.K H1 a xs ∧ ∀ p, H1 p = none → Q (.ref p) (upd H1 p (.lst xs.reverse))) (fun H F x v z Q sF tb px e k => by
    unfold opRev at e
    split at e
    · cases e
      obtain ⟨hz, a, vs, rfl, ea, r⟩ := px.lst sF
      refine ⟨a, vs, rfl, SqL.of ea, fun p hp => k _ _ F (GrowT.alloc sF _ hp) ⟨p, rfl, notF sF hp, hp, by rw [List.length_reverse]; exact hz, _, upd_same, ?_⟩⟩
      have go : ∀ {ds : List D} {vs : List V}, Reps G.K F ds vs → Reps G.K F ds.reverse vs.reverse := by
        intro ds
        induction ds with
        | nil => intro vs r; simp only [Reps] at r; subst r; rfl
        | cons d ds ih =>
          intro vs r
          simp only [Reps] at r
          obtain ⟨v, ws, rfl, r1, r2⟩ := r
          rw [List.reverse_cons, List.reverse_cons]
          exact (ih r2).append ⟨v, [], rfl, r1, rfl⟩
      exact go r
    · cases e) q
/-! ### built-ins called -/
theorem de_callB {x : Str} {id : String} {r : List V → Hp → VK → Prop} {f : List D → Option Rv} {e : Expr} {es : List Expr} {mm : MA} {p pos : Pos} (hc : CallR X (.builtin id) r) (ho : OpNOk G r f) (hg : Gl X x) (hm : X.mg x = none) (hv : bootBuiltins x = some (.builtin id)) (ha : DA X G W (e :: es) mm)
    (hn : x ≠ "__name__" := by decide) (hdb : (x == ("__debug__" : Str)) = false := by decide) (he : starEach (e :: es) X.env = (false, eval e X.env) :: starEach es X.env := by rfl) (hpl : (backTo pos (starEach es X.env)).any (·.1) = false := by rfl) : DE X G W (.Call (.Name x p) (e :: es) [] pos) (mOp f mm) :=
  (pe_callB hc hg hm hv ha hn hdb he hpl).mono fun σ H Q q => te_opN ho q
theorem de_callTy {x : Str} {T : String} {r : List V → Hp → VK → Prop} {f : List D → Option Rv} {e : Expr} {es : List Expr} {mm : MA} {p pos : Pos} (hc : CallR X (.type T) r) (ho : OpNOk G r f) (hg : Gl X x) (hm : X.mg x = none) (hv : bootBuiltins x = some (.type T)) (ha : DA X G W (e :: es) mm)
    (hn : x ≠ "__name__" := by decide) (hdb : (x == ("__debug__" : Str)) = false := by decide) (he : starEach (e :: es) X.env = (false, eval e X.env) :: starEach es X.env := by rfl) (hpl : (backTo pos (starEach es X.env)).any (·.1) = false := by rfl) : DE X G W (.Call (.Name x p) (e :: es) [] pos) (mOp f mm) :=
  (pe_callTy hc hg hm hv ha hn hdb he hpl).mono fun σ H Q q => te_opN ho q
theorem one_peek {K : PySem.W.Frag} {d : D} {vs : List V} (h : Peeks K H F [d] vs) : ∃ v, vs = [v] ∧ Peek K H F d v := by
  cases h with
  | cons h t => cases t; exact ⟨_, rfl, h⟩
theorem two_peek {K : PySem.W.Frag} {d e : D} {vs : List V} (h : Peeks K H F [d, e] vs) : ∃ v w, vs = [v, w] ∧ Peek K H F d v ∧ Peek K H F e w := by
  cases h with
  | cons h t =>
    cases t with
    | cons h2 t => cases t; exact ⟨_, _, rfl, h, h2⟩
theorem k_len (hK : X.K = G.K) : ∃ r, CallR X (.builtin "len") r ∧ OpNOk G r opLen := by
  refine ⟨_, CallR.or call_len call_lenD, fun H F ds vs z Q sF tb p e k => ?_⟩
  rw [hK]
  unfold opLen at e
  split at e
  · cases e
    obtain ⟨v, rfl, pk⟩ := one_peek p
    obtain ⟨_, a, vs, rfl, ea, r⟩ := pk.lst sF
    exact .inl ⟨_, vs.length, rfl, .inl ⟨vs, SqL.of ea, rfl⟩, k _ H F (GrowT.refl sF) (by show V.int _ = V.int _; rw [r.length])⟩
  · cases e
    obtain ⟨v, rfl, pk⟩ := one_peek p
    obtain ⟨_, a, vs, rfl, ea, r⟩ := pk.tup
    exact .inl ⟨_, vs.length, rfl, .inr ⟨vs, SqT.of (sF _ _ ea), rfl⟩, k _ H F (GrowT.refl sF) (by show V.int _ = V.int _; rw [r.length])⟩
  · cases e
    obtain ⟨v, rfl, pk⟩ := one_peek p
    obtain ⟨_, a, rfl, s⟩ := pk.scr sF
    exact .inl ⟨_, _, rfl, .inl ⟨_, s, rfl⟩, k _ H F (GrowT.refl sF) (by show V.int _ = V.int _; rw [List.length_map])⟩
  · split at e
    · cases e
      rename_i hz
      obtain ⟨v, rfl, pk⟩ := one_peek p
      rw [pk.str]
      exact .inl ⟨_, _, rfl, ⟨by rw [← sizeL_eq]; exact hz, rfl⟩, k _ H F (GrowT.refl sF) rfl⟩
    · cases e
  · cases e
    obtain ⟨v, rfl, pk⟩ := one_peek p
    obtain ⟨a, vs, rfl, ea, r⟩ := pk.dct sF
    have hl : ∀ {kvs : List (Ky × D)} {ws : List (Key × V)}, RepK G.K F kvs ws → ws.length = kvs.length := by
      intro kvs
      induction kvs with
      | nil => intro ws r; simp only [RepK] at r; subst r; rfl
      | cons q kvs ih =>
        intro ws r
        obtain ⟨q1, q2⟩ := q
        simp only [RepK] at r
        obtain ⟨v, ws', rfl, _, r2⟩ := r
        rw [List.length_cons, List.length_cons, ih r2]
    exact .inr ⟨a, vs, rfl, ea, k _ H F (GrowT.refl sF) (by show V.int _ = V.int _; rw [hl r])⟩
  · cases e
theorem bools_ok {K : PySem.W.Frag} : ∀ {ds : List D} {vs : List V} {bs : List Bool}, Reps K F ds vs → bools? ds = some bs → vs = bs.map V.bl
  | [], vs, bs, r, e => by
    simp only [Reps] at r
    cases e
    exact r
  | .bl b :: ds, vs, bs, r, e => by
    simp only [Reps] at r
    obtain ⟨v, ws, rfl, r1, r2⟩ := r
    obtain ⟨bs', e1, e2⟩ := Option.map_eq_some_iff.mp (show (bools? ds).map _ = some bs from e)
    subst e2
    rw [bools_ok r2 e1, show v = .bl b from r1]
    rfl
  | .non :: _, _, _, _, e => by cases e
  | .int _ :: _, _, _, _, e => by cases e
  | .str _ :: _, _, _, _, e => by cases e
  | .lst _ :: _, _, _, _, e => by cases e
  | .tup _ :: _, _, _, _, e => by cases e
  | .dct _ :: _, _, _, _, e => by cases e
  | .dctT _ :: _, _, _, _, e => by cases e
  | .exn _ :: _, _, _, _, e => by cases e
  | .scr _ :: _, _, _, _, e => by cases e
theorem ints_ok {K : PySem.W.Frag} : ∀ {ds : List D} {vs : List V} {bs : List Int}, Reps K F ds vs → ints? ds = some bs → vs = bs.map V.int
  | [], vs, bs, r, e => by
    simp only [Reps] at r
    cases e
    exact r
  | .int b :: ds, vs, bs, r, e => by
    simp only [Reps] at r
    obtain ⟨v, ws, rfl, r1, r2⟩ := r
    obtain ⟨bs', e1, e2⟩ := Option.map_eq_some_iff.mp (show (ints? ds).map _ = some bs from e)
    subst e2
    rw [ints_ok r2 e1, show v = .int b from r1]
    rfl
  | .non :: _, _, _, _, e => by cases e
  | .bl _ :: _, _, _, _, e => by cases e
  | .str _ :: _, _, _, _, e => by cases e
  | .lst _ :: _, _, _, _, e => by cases e
  | .tup _ :: _, _, _, _, e => by cases e
  | .dct _ :: _, _, _, _, e => by cases e
  | .dctT _ :: _, _, _, _, e => by cases e
  | .exn _ :: _, _, _, _, e => by cases e
  | .scr _ :: _, _, _, _, e => by cases e
theorem k_all (hK : X.K = G.K) (hc : X.calm = true) : ∃ r, CallR X (.builtin "all") r ∧ OpNOk G r opAll := by
  refine ⟨_, cr_all hc, fun H F ds vs z Q sF tb p e k => ?_⟩
  rw [hK]
  unfold opAll at e
  split at e
  · obtain ⟨bs, e1, e2⟩ := Option.map_eq_some_iff.mp e
    subst e2
    obtain ⟨v, rfl, pk⟩ := one_peek p
    obtain ⟨_, a, vs, rfl, ea, r⟩ := pk.lst sF
    exact ⟨a, bs, rfl, SqL.of (by rw [← bools_ok r e1]; exact ea), k _ H F (GrowT.refl sF) rfl⟩
  · cases e
theorem k_any (hK : X.K = G.K) (hc : X.calm = true) : ∃ r, CallR X (.builtin "any") r ∧ OpNOk G r opAny := by
  refine ⟨_, cr_any hc, fun H F ds vs z Q sF tb p e k => ?_⟩
  rw [hK]
  unfold opAny at e
  split at e
  · obtain ⟨bs, e1, e2⟩ := Option.map_eq_some_iff.mp e
    subst e2
    obtain ⟨v, rfl, pk⟩ := one_peek p
    obtain ⟨_, a, vs, rfl, ea, r⟩ := pk.lst sF
    exact ⟨a, bs, rfl, SqL.of (by rw [← bools_ok r e1]; exact ea), k _ H F (GrowT.refl sF) rfl⟩
  · cases e
theorem k_sum (hK : X.K = G.K) (hc : X.calm = true) : ∃ r, CallR X (.builtin "sum") r ∧ OpNOk G r opSum := by
  refine ⟨_, cr_sum hc, fun H F ds vs z Q sF tb p e k => ?_⟩
  rw [hK]
  unfold opSum at e
  split at e
  · obtain ⟨bs, e1, e2⟩ := Option.map_eq_some_iff.mp e
    subst e2
    obtain ⟨v, rfl, pk⟩ := one_peek p
    obtain ⟨_, a, vs, rfl, ea, r⟩ := pk.lst sF
    exact ⟨a, bs, rfl, SqL.of (by rw [← ints_ok r e1]; exact ea), k _ H F (GrowT.refl sF) rfl⟩
  · cases e
theorem listMax_spec : ∀ {bs : List Int} {m : Int}, m ∈ bs → (∀ y, y ∈ bs → y ≤ m) → m = listMax bs
  | [a], m, h, _ => by simpa [listMax, listMin] using h
  | a :: b :: r, m, h, k => by
    have hm : a ≤ m := k a List.mem_cons_self
    have ge : ∀ {l : List Int}, l ≠ [] → listMax l ∈ l := by
      intro l
      induction l with
      | nil => intro n; exact absurd rfl n
      | cons c l ih =>
        intro _
        cases l with
        | nil => exact List.mem_cons_self
        | cons d l =>
          show max c (listMax (d :: l)) ∈ _
          have := ih (by simp)
          rcases Int.le_total c (listMax (d :: l)) with q | q
          · rw [Int.max_eq_right q]; exact List.mem_cons_of_mem _ this
          · rw [Int.max_eq_left q]; exact List.mem_cons_self
    show m = max a (listMax (b :: r))
    have h2 : listMax (b :: r) ≤ m := k _ (List.mem_cons_of_mem _ (ge (by simp)))
    rcases List.mem_cons.mp h with e | e
    · omega
    · have := listMax_spec (bs := b :: r) e fun y hy => k y (List.mem_cons_of_mem _ hy)
      omega
theorem listMin_spec : ∀ {bs : List Int} {m : Int}, m ∈ bs → (∀ y, y ∈ bs → m ≤ y) → m = listMin bs
  | [a], m, h, _ => by simpa [listMax, listMin] using h
  | a :: b :: r, m, h, k => by
    have hm : m ≤ a := k a List.mem_cons_self
    have ge : ∀ {l : List Int}, l ≠ [] → listMin l ∈ l := by
      intro l
      induction l with
      | nil => intro n; exact absurd rfl n
      | cons c l ih =>
        intro _
        cases l with
        | nil => exact List.mem_cons_self
        | cons d l =>
          show min c (listMin (d :: l)) ∈ _
          have := ih (by simp)
          rcases Int.le_total c (listMin (d :: l)) with q | q
          · rw [Int.min_eq_left q]; exact List.mem_cons_self
          · rw [Int.min_eq_right q]; exact List.mem_cons_of_mem _ this
    show m = min a (listMin (b :: r))
    have h2 : m ≤ listMin (b :: r) := k _ (List.mem_cons_of_mem _ (ge (by simp)))
    rcases List.mem_cons.mp h with e | e
    · omega
    · have := listMin_spec (bs := b :: r) e fun y hy => k y (List.mem_cons_of_mem _ hy)
      omega
theorem k_max (hK : X.K = G.K) (hc : X.calm = true) : ∃ r, CallR X (.builtin "max") r ∧ OpNOk G r opMax := by
  refine ⟨_, CallR.or (cr_max hc) (call_max2 hc), fun H F ds vs z Q sF tb p e k => ?_⟩
  rw [hK]
  unfold opMax at e
  split at e
  · obtain ⟨bs, e1, e2⟩ := Option.bind_eq_some_iff.mp e
    split at e2
    · cases e2
    · rename_i hne
      cases e2
      obtain ⟨v, rfl, pk⟩ := one_peek p
      obtain ⟨_, a, vs, rfl, ea, r⟩ := pk.lst sF
      refine .inl ⟨a, bs, rfl, SqL.of (by rw [← ints_ok r e1]; exact ea), ?_, fun m h1 h2 => k _ H F (GrowT.refl sF) (by show V.int m = V.int _; rw [listMax_spec h1 h2])⟩
      cases bs with
      | nil => exact absurd rfl hne
      | cons b bs => exact Nat.succ_pos _
  · cases e
    obtain ⟨v, w, rfl, p1, p2⟩ := two_peek p
    rw [p1.int, p2.int]
    exact .inr ⟨_, _, rfl, k _ H F (GrowT.refl sF) rfl⟩
  · cases e
theorem k_min (hK : X.K = G.K) (hc : X.calm = true) : ∃ r, CallR X (.builtin "min") r ∧ OpNOk G r opMin := by
  refine ⟨_, CallR.or (cr_min hc) (call_min2 hc), fun H F ds vs z Q sF tb p e k => ?_⟩
  rw [hK]
  unfold opMin at e
  split at e
  · obtain ⟨bs, e1, e2⟩ := Option.bind_eq_some_iff.mp e
    split at e2
    · cases e2
    · rename_i hne
      cases e2
      obtain ⟨v, rfl, pk⟩ := one_peek p
      obtain ⟨_, a, vs, rfl, ea, r⟩ := pk.lst sF
      refine .inl ⟨a, bs, rfl, SqL.of (by rw [← ints_ok r e1]; exact ea), ?_, fun m h1 h2 => k _ H F (GrowT.refl sF) (by show V.int m = V.int _; rw [listMin_spec h1 h2])⟩
      cases bs with
      | nil => exact absurd rfl hne
      | cons b bs => exact Nat.succ_pos _
  · cases e
    obtain ⟨v, w, rfl, p1, p2⟩ := two_peek p
    rw [p1.int, p2.int]
    exact .inr ⟨_, _, rfl, k _ H F (GrowT.refl sF) rfl⟩
  · cases e
theorem k_tuple (hK : X.K = G.K) : ∃ r, CallR X (.type "tuple") r ∧ OpNOk G r opTuple := by
  refine ⟨_, call_tuple_of, fun H F ds vs z Q sF tb p e k => ?_⟩
  rw [hK]
  unfold opTuple at e
  split at e
  · cases e
    obtain ⟨v, rfl, pk⟩ := one_peek p
    obtain ⟨hz, a, vs, rfl, ea, r⟩ := pk.lst sF
    refine ⟨a, vs, rfl, .inl ⟨SqL.of ea, fun q hq => k _ _ _ (GrowT.allocF sF _ hq) (show Rep _ _ (.tup _) _ from ?_)⟩⟩
    simp only [Rep]
    exact ⟨hz, q, vs, rfl, upd_same, Reps.mono (Grow.allocF sF _ hq).fsub _ _ r⟩
  · cases e
    obtain ⟨v, rfl, pk⟩ := one_peek p
    obtain ⟨hz, a, vs, rfl, ea, r⟩ := pk.tup
    refine ⟨a, vs, rfl, .inr ⟨SqT.of (sF _ _ ea), k _ H F (GrowT.refl sF) (show Rep _ _ (.tup _) _ from ?_)⟩⟩
    simp only [Rep]
    exact ⟨hz, a, vs, rfl, ea, r⟩
  · cases e
theorem k_list (hK : X.K = G.K) : ∃ r, CallR X (.type "list") r ∧ OpNOk G r opList := by
  refine ⟨_, call_list_of, fun H F ds vs z Q sF tb p e k => ?_⟩
  rw [hK]
  unfold opList at e
  split at e
  · cases e
    obtain ⟨v, rfl, pk⟩ := one_peek p
    obtain ⟨hz, a, vs, rfl, ea, r⟩ := pk.lst sF
    exact ⟨a, vs, rfl, .inl (SqL.of ea), fun q hq => k _ _ F (GrowT.alloc sF _ hq) ⟨q, rfl, notF sF hq, hq, hz, vs, upd_same, r⟩⟩
  · cases e
    obtain ⟨v, rfl, pk⟩ := one_peek p
    obtain ⟨hz, a, vs, rfl, ea, r⟩ := pk.tup
    exact ⟨a, vs, rfl, .inr (SqT.of (sF _ _ ea)), fun q hq => k _ _ F (GrowT.alloc sF _ hq) ⟨q, rfl, notF sF hq, hq, hz, vs, upd_same, r⟩⟩
  · cases e
theorem k_int : ∃ r, CallR X (.type "int") r ∧ OpNOk G r opInt := by
  refine ⟨_, call_int1, fun H F ds vs z Q sF tb p e k => ?_⟩
  unfold opInt at e
  split at e
  · cases e
    obtain ⟨v, rfl, pk⟩ := one_peek p
    rw [pk.int]
    exact .inl ⟨_, rfl, k _ H F (GrowT.refl sF) rfl⟩
  · cases e
    obtain ⟨v, rfl, pk⟩ := one_peek p
    rw [pk.bl]
    exact .inr ⟨_, rfl, k _ H F (GrowT.refl sF) rfl⟩
  · cases e
end
end DL
end
section
set_option linter.all false
set_option maxRecDepth 100000
set_option maxHeartbeats 4000000
set_option autoImplicit false
namespace DL
open PySem L2 PySem.Spec PyProof.Rows
section
variable {X : Cx} {G : Gx} {W : WX} {H0 F0 H F H1 F1 : Hp} {sl sl1 : Sl} {σ : L2.St}
/-! ### isinstance(x, T) -/
theorem kit_all : (["NoneType", "bool", "int", "str", "list", "tuple", "dict"].all fun t => ["int", "bool", "str", "tuple", "list", "dict"].all fun T => kitB t T == some (t == T || (T == "int" && t == "bool"))) = true := by decide +kernel
theorem kit_at {t T : String} (h1 : t ∈ ["NoneType", "bool", "int", "str", "list", "tuple", "dict"]) (h2 : T ∈ ["int", "bool", "str", "tuple", "list", "dict"]) : kitB t T = some (t == T || (T == "int" && t == "bool")) := by
  have h := List.all_eq_true.mp (List.all_eq_true.mp kit_all t h1) T h2
  exact eq_of_beq h
theorem Peek.ty {K : PySem.W.Frag} {d : D} {v : V} {t : String} (sF : Same F H) (p : Peek K H F d v) (e : d.ty? = some t) : t ∈ ["NoneType", "bool", "int", "str", "list", "tuple", "dict"] ∧ TyX K H v (.type t) := by
  cases d with
  | non => cases e; rw [p.non]; exact ⟨by decide, .base .non⟩
  | bl b => cases e; rw [p.bl]; exact ⟨by decide, .base (.bl b)⟩
  | int b => cases e; rw [p.int]; exact ⟨by decide, .base (.int b)⟩
  | str b => cases e; rw [p.str]; exact ⟨by decide, .base (.str b)⟩
  | lst ds => cases e; obtain ⟨_, a, vs, rfl, ea, _⟩ := p.lst sF; exact ⟨by decide, .base (.lst ea)⟩
  | tup ds => cases e; obtain ⟨_, a, vs, rfl, ea, _⟩ := p.tup; exact ⟨by decide, .base (.tup (sF _ _ ea))⟩
  | dct ds => cases e; obtain ⟨a, vs, rfl, ea, _⟩ := p.dct sF; exact ⟨by decide, .base (.dK ea)⟩
  | dctT ds => cases e; obtain ⟨a, vs, rfl, ea, _⟩ := p.dctT sF; exact ⟨by decide, .base (.dT ea)⟩
  | _ => cases e
/-- isinstance(e, T), T a built-in type's name -/
theorem de_isi {T : String} {e : Expr} {m : ME} {x y : Str} {p p2 pos : Pos} (hK : X.K = G.K) (hT : T ∈ ["int", "bool", "str", "tuple", "list", "dict"]) (hx : x = "isinstance") (hg : Gl X x) (hm : X.mg x = none) (hg2 : Gl X y) (hm2 : X.mg y = none) (hv : bootBuiltins y = some (.type T)) (he : DE X G W e m)
    (hn : y ≠ "__name__" := by decide) (hdb : (y == ("__debug__" : Str)) = false := by decide) (hst : starEach [e, .Name y p2] X.env = (false, eval e X.env) :: starEach [.Name y p2] X.env := by rfl) : DE X G W (.Call (.Name x p) [e, .Name y p2] [] pos) (mUn (fun d => (isTy T d).map fun k => .dat (.bl k)) m) := by
  subst hx
  refine (pe_callB call_isi hg hm PyProof.Rows.boot_isinstance (pa_cons he (pa_cons (pe_bltn (v := .ty T) hg2 hm2 hv rfl hn hdb) pa_nil) hst) (he := hst)).mono fun σ H Q q => ?_
  refine te_un (r := fun x H1 Q => rIsi X.K [x, .ty T] H1 Q) (fun H F d v z Q sF tb px e k => ?_) q
  obtain ⟨b, e1, e2⟩ := Option.map_eq_some_iff.mp e
  subst e2
  unfold isTy at e1
  obtain ⟨t, e3, e4⟩ := Option.map_eq_some_iff.mp e1
  obtain ⟨h1, h2⟩ := px.ty sF e3
  rw [hK]
  exact ⟨v, .ty T, .type t, .type T, b, rfl, .ty T, h2, kit_ty ((kit_at h1 hT).trans (congrArg some e4)), k _ H F (GrowT.refl sF) rfl⟩
/-! ### e[lo:hi] -/
def PPost (G : Gx) (W : WX) (H0 F0 F : Hp) (σ : L2.St) (Q : Option Int → Hp → Prop) : POut → Prop
  | .ok o sl => ∀ H' F', SR G H0 F0 sl σ H' F' → Same F F' → Q o H'
  | .exc c sl => XPost G W H0 F0 F σ c sl
  | .bad => False
def TPd (G : Gx) (W : WX) (m : MP) : TO := fun σ H Q => ∃ H0 F0 F sl, SR G H0 F0 sl σ H F ∧ PPost G W H0 F0 F σ Q (m sl)
abbrev DP (X : Cx) (G : Gx) (W : WX) (e : Option Expr) (m : MP) : Prop := PO X e (TPd G W m)
theorem _root_.L2.PO.mono {X : Cx} {e : Option Expr} {t t' : TO} (h : PO X e t) (i : ∀ σ H Q, t' σ H Q → t σ H Q) : PO X e t' := ⟨fun pins s σ H Q I q => h.run pins s σ H Q I (i σ H Q q)⟩
theorem dp_none : DP X G W none mpNone := po_none.mono fun σ H Q ⟨H0, F0, F, sl, S, q⟩ => q H F S (Same.refl F)
theorem dp_some {e : Expr} {m : ME} (h : DE X G W e m) : DP X G W (some e) (mpSome m) :=
  (po_some h).mono fun σ H Q ⟨H0, F0, F, sl, S, q⟩ => by
    unfold mpSome at q
    refine TEd.go S (fun c sl1 e => ?_) (fun e => ?_) fun r sl1 v H1 F1 e S1 s1 R1 => ?_
    · rw [e] at q; exact q
    · rw [e] at q; exact q
    · rw [e] at q
      dsimp only at q
      cases e1 : r.get sl1 with
      | none => rw [e1] at q; exact q.elim
      | some d =>
        rw [e1] at q
        cases d with
        | int i => exact ⟨i, (R1.peek S1 e1).int, q H1 F1 S1 s1⟩
        | _ => exact q.elim
theorem cut_eq {α : Type} (xs : List α) (lo hi : Option Int) : cutL xs lo hi = (xs.drop (HT.sIx xs.length 0 lo)).take (HT.sIx xs.length xs.length hi - HT.sIx xs.length 0 lo) := by
  have h : ∀ n d o, slIx n d o = HT.sIx n d o := fun n d o => by cases o <;> rfl
  unfold cutL
  rw [h, h]
theorem Reps.take {K : PySem.W.Frag} : ∀ {ds : List D} {vs : List V} (n : Nat), Reps K F ds vs → Reps K F (ds.take n) (vs.take n)
  | _, _, 0, _ => by simp only [List.take_zero]; rfl
  | [], vs, n + 1, r => by simp only [Reps] at r; subst r; rfl
  | d :: ds, vs, n + 1, r => by
    simp only [Reps] at r
    obtain ⟨v, ws, rfl, r1, r2⟩ := r
    exact ⟨v, _, rfl, r1, Reps.take n r2⟩
theorem Reps.drop {K : PySem.W.Frag} : ∀ {ds : List D} {vs : List V} (n : Nat), Reps K F ds vs → Reps K F (ds.drop n) (vs.drop n)
  | _, _, 0, r => r
  | [], vs, n + 1, r => by simp only [Reps] at r; subst r; rfl
  | d :: ds, vs, n + 1, r => by
    simp only [Reps] at r
    obtain ⟨v, ws, rfl, r1, r2⟩ := r
    exact Reps.drop n r2
theorem Reps.cut {K : PySem.W.Frag} {ds : List D} {vs : List V} (r : Reps K F ds vs) (lo hi : Option Int) : Reps K F (cutL ds lo hi) (cutV vs lo hi) := by
  rw [cut_eq]
  unfold cutV
  rw [r.length]
  exact (r.drop _).take _
theorem cutL_len {α : Type} (xs : List α) (lo hi : Option Int) : (cutL xs lo hi).length ≤ xs.length := by
  unfold cutL
  rw [List.length_take, List.length_drop]
  omega
theorem te_cut {Q : VK} {m : ME} {lo hi : MP} (hK : X.K = G.K) (q : TEd G W (mCut m lo hi) σ H Q) :
    tSl (fun x l h H Q => rSlL X.K x l h H Q ∨ rSlA X.K x l h H Q ∨ rSlS x l h H Q) (TEd G W m) (TPd G W lo) (TPd G W hi) σ H Q := by
  obtain ⟨H0, F0, F, sl, S, q⟩ := q
  refine TEd.bind S q fun ra sl1 v H1 F1 S1 s1 R1 q1 => ?_
  obtain ⟨F1', S1', s1', R1'⟩ := R1.fix S1
  have q1 := EPost.on q1 s1'
  refine ⟨H0, F0, F1', sl1, S1', ?_⟩
  cases e1 : lo sl1 with
  | bad => rw [e1] at q1; exact q1
  | exc c sl2 => rw [e1] at q1; exact q1
  | ok l sl2 =>
    rw [e1] at q1
    dsimp only at q1
    intro H2 F2 S2 s2
    refine ⟨H0, F0, F2, sl2, S2, ?_⟩
    have q2 := EPost.on q1 s2
    cases e2 : hi sl2 with
    | bad => rw [e2] at q2; exact q2
    | exc c sl3 => rw [e2] at q2; exact q2
    | ok h sl3 =>
      rw [e2] at q2
      dsimp only at q2
      intro H3 F3 S3 s3
      have q3 := EPost.on q2 s3
      have R3 : RvOk G H0 H3 F3 sl3 σ ra.fix v := R1'.on (s2.trans s3)
      cases e3 : ra.fix.get sl3 with
      | none => rw [e3] at q3; exact q3.elim
      | some x =>
        rw [e3] at q3
        dsimp only at q3
        have px := R3.peek S3 e3
        have sF := S3.sub
        cases x with
        | lst ds =>
          obtain ⟨hz, a, vs, rfl, ea, r⟩ := px.lst sF
          refine .inl ⟨a, vs, rfl, SqL.of ea, fun p hp => EPost.op S3 q3 (GrowT.alloc sF _ hp) ⟨p, rfl, notF sF hp, hp, Nat.le_trans (cutL_len _ _ _) hz, _, upd_same, r.cut l h⟩⟩
        | tup ds =>
          obtain ⟨hz, a, vs, rfl, ea, r⟩ := px.tup
          have ec := r.cut l h
          refine .inr (.inl ⟨a, vs, rfl, by rw [hK]; exact SqT.of (sF _ _ ea), fun hw => ?_, fun hw p hp => ?_⟩)
          · refine EPost.op S3 q3 (GrowT.refl sF) (show Rep _ _ (.tup _) _ from ?_)
            simp only [Rep]
            refine ⟨Nat.le_trans (cutL_len _ _ _) hz, a, vs, rfl, ea, ?_⟩
            have e : cutL ds l h = ds := by
              rw [cut_eq]
              rw [r.length] at hw
              rw [hw.1, hw.2]
              simp
            rw [e]
            exact r
          · refine EPost.op S3 q3 (GrowT.allocF sF _ hp) (show Rep _ _ (.tup _) _ from ?_)
            simp only [Rep]
            exact ⟨Nat.le_trans (cutL_len _ _ _) hz, p, _, rfl, upd_same, Reps.mono (Grow.allocF sF _ hp).fsub _ _ ec⟩
        | str z =>
          dsimp only [opCut] at q3
          split at q3
          · rename_i e4
            split at e4
            · rename_i hz
              cases e4
              rw [px.str]
              exact .inr (.inr ⟨z, rfl, by rw [← sizeL_eq]; exact hz, EPost.op S3 q3 (GrowT.refl sF) (show V.str _ = V.str _ by
                have hl : ∀ n d o, slIx n d o = HT.sIx n d o := fun n d o => by cases o <;> rfl
                unfold cutS cutSt
                rw [hl, hl])⟩)
            · cases e4
          · exact q3.elim
        | _ => exact q3.elim
theorem de_cut {e : Expr} {lo hi : Option Expr} {m : ME} {ml mh : MP} {p2 pos : Pos} (hK : X.K = G.K) (he : DE X G W e m) (hl : DP X G W lo ml) (hh : DP X G W hi mh) : DE X G W (.Subscript e (.Slice lo hi none p2) pos) (mCut m ml mh) :=
  (pe_slice (SlR.or sl_list (SlR.or sl_tupA sl_str)) he hl hh).mono fun σ H Q q => te_cut hK q
/-! ### methods that read -/
def OpMOk (G : Gx) (t : D → Bool) (T : String) (r : V → List V → Hp → VK → Prop) (f : D → List D → Option Rv) : Prop := (∀ (H F : Hp) (x : D) (v : V), Same F H → Peek G.K H F x v → t x = true → tyV G.K T v H) ∧
  ∀ (H F : Hp) (x : D) (ds : List D) (v : V) (vs : List V) (z : Rv) (Q : VK), Same F H → LamX.Tabs G.T H → Peek G.K H F x v → Peeks G.K H F ds vs → f x ds = some z →
  (∀ u H' F', GrowT G F H F' H' → ResOk G.K H H' F' z u → Q u H') → r v vs H Q
theorem te_meth {t : D → Bool} {T : String} {r : V → List V → Hp → VK → Prop} {f : D → List D → Option Rv} {m : ME} {mm : MA} (hK : X.K = G.K) (ho : OpMOk G t T r f) {Q : VK} (q : TEd G W (mMeth t f m mm) σ H Q) : tBM X.K T r (TEd G W m) (TAd G W mm) σ H Q := by
  obtain ⟨H0, F0, F, sl, S, q⟩ := q
  refine TEd.bind S q fun ra sl1 v H1 F1 S1 s1 R1 q1 => ?_
  obtain ⟨F1', S1', s1', R1'⟩ := R1.fix S1
  have q1 := EPost.on q1 s1'
  cases e0 : ra.fix.get sl1 with
  | none => rw [e0] at q1; exact q1.elim
  | some x0 =>
    rw [e0] at q1
    dsimp only at q1
    split at q1
    · rename_i ht
      refine ⟨by rw [hK]; exact ho.1 H1 F1' x0 v S1'.sub (R1'.peek S1' e0) ht, H0, F0, F1', sl1, S1', ?_⟩
      cases e1 : mm sl1 with
      | bad => rw [e1] at q1; exact q1
      | exc c sl2 => rw [e1] at q1; exact q1
      | ok rs sl2 =>
        rw [e1] at q1
        dsimp only at q1
        intro vs H2 F2 S2 s2 R2
        have q2 := EPost.on q1 s2
        have R3 : RvOk G H0 H2 F2 sl2 σ ra.fix v := R1'.on s2
        cases e2 : ra.fix.get sl2 with
        | none => rw [e2] at q2; exact q2.elim
        | some x =>
          cases e3 : getAll sl2 rs with
          | none => rw [e2, e3] at q2; exact q2.elim
          | some ds =>
            cases e4 : f x ds with
            | none => simp only [e2, e3, e4] at q2; exact q2.elim
            | some z =>
              simp only [e2, e3, e4] at q2
              exact ho.2 H2 F2 x ds v vs z Q S2.sub S2.tabs (R3.peek S2 e2) (getAll_ok S2 R2 e3) e4 fun u H' F' g h => EPost.op S2 q2 g h
    · exact q1.elim
theorem de_meth {t : D → Bool} {T id : String} {name : Str} {r : V → List V → Hp → VK → Prop} {f : D → List D → Option Rv} {o e : Expr} {es : List Expr} {m : ME} {mm : MA} {apos cpos : Pos} (hK : X.K = G.K) (ho : OpMOk G t T r f) (pa : PlainAttrs T) (slot : PySem.Slot T name id) (hty : typeOf (.builtin id) = pure (.type "method_descriptor"))
    (hm : MtR X id r) (h1 : DE X G W o m) (h2 : DA X G W (e :: es) mm)
    (hbase : attributeBase o name X.env (eval o X.env) = eval o X.env := by rfl)
    (hfew : ((backTo cpos (starEach (e :: es) X.env)).all (fun x => !x.1) && (backToKw cpos (keywordEach [] X.env)).all (fun x => x.1.isSome)
      && decide ((e :: es).length + ([] : List Keyword).length + (if ([] : List Keyword).isEmpty then 0 else 1) < 30)) = true := by rfl)
    (hline : (apos.endLine == cpos.line) = true := by rfl) (hs : starEach (e :: es) X.env = (false, eval e X.env) :: starEach es X.env := by rfl) (hplain : (backTo cpos (starEach es X.env)).any (·.1) = false := by rfl) :
    DE X G W (.Call (.Attribute o name apos) (e :: es) [] cpos) (mMeth t f m mm) :=
  (pe_bm pa slot hty hm h1 h2 hbase hfew hline hs hplain).mono fun σ H Q q => te_meth hK ho q
theorem findD_spec (x : D) : ∀ (ds : List D) (i j : Nat), findD x ds i = some j → ∃ k z, j = i + k ∧ ds[k]? = some z ∧ D.eqv z x = true ∧ ∀ m z', m < k → ds[m]? = some z' → D.eqv z' x = false
  | [], i, j, e => by cases e
  | d :: ds, i, j, e => by
    simp only [findD] at e
    split at e
    · rename_i h
      cases e
      exact ⟨0, d, rfl, rfl, h, fun m z' hm => absurd hm (Nat.not_lt_zero _)⟩
    · rename_i h
      obtain ⟨k, z, e1, e2, e3, e4⟩ := findD_spec x ds (i + 1) j e
      refine ⟨k + 1, z, by omega, by simpa using e2, e3, fun m z' hm hz => ?_⟩
      cases m with
      | zero =>
        have : d = z' := by simpa using hz
        subst this
        exact Bool.eq_false_iff.mpr h
      | succ m => exact e4 m z' (by omega) (by simpa using hz)
theorem toPs_get : ∀ (ds : List D) (k : Nat), (D.toPs ds)[k]? = (ds[k]?).map D.toP
  | [], k => by simp [D.toPs]
  | d :: ds, 0 => by simp [D.toPs]
  | d :: ds, k + 1 => by simp [D.toPs, toPs_get ds k]
theorem laids_get : ∀ {ds : List D} {k : Nat} {z : D}, D.laids ds = true → ds[k]? = some z → z.laid = true
  | [], _, _, _, e => by simp at e
  | d :: ds, 0, z, h, e => by
    simp only [D.laids, Bool.and_eq_true] at h
    simp at e
    subst e
    exact h.1
  | d :: ds, k + 1, z, h, e => by
    simp only [D.laids, Bool.and_eq_true] at h
    exact laids_get (k := k) h.2 (by simpa using e)
theorem m_index : OpMOk G isLst "list" (rIndexD G.K) opIndex := by
  refine ⟨fun H F x v sF p t => ?_, fun H F x ds v vs z Q sF tb px ps e k => ?_⟩
  · cases x with
    | lst ds => obtain ⟨_, a, vs, rfl, ea, _⟩ := p.lst sF; exact .inl ⟨rfl, vs, SqL.of ea⟩
    | _ => cases t
  · unfold opIndex at e
    split at e
    · rename_i ds y
      split at e
      · rename_i hh
        obtain ⟨h1, h2, h3, h4⟩ := hh
        obtain ⟨i, e1, e2⟩ := Option.map_eq_some_iff.mp e
        subst e2
        obtain ⟨w, rfl, py⟩ := one_peek ps
        obtain ⟨hz, a, vs, rfl, ea, r⟩ := px.lst sF
        have hy : Dp G.K H w y.toP := by
          have q := py.dp sF (d := y)
          cases y <;> first | exact q h1 | (simp [D.laid] at h1)
        obtain ⟨j, z, e3, e4, e5, e6⟩ := findD_spec y ds 0 i e1
        have lz := laids_get h2 e4
        refine ⟨a, w, y.toP, D.toPs ds, j, z.toP, rfl, rfl, .lst (SqL.of ea) (reps_dp sF ds vs h2 r), hy, ?_, ?_, by rw [toPs_get, e4]; rfl, by rw [toP_eqv z y lz h1]; exact e5, fun m z' hm hz' => ?_, ?_⟩
        · have l1 : (PyData.list (D.toPs ds)).canLay0 = true := by simp only [PyData.canLay0]; exact toPs_lay ds h2
          have l2 : (PyData.list (D.toPs ds)).depth = D.deps ds + 1 := by simp only [PyData.depth, toPs_dep ds h2]
          unfold SeqAt.shaped
          rw [l1, l2, decide_eq_true (by omega)]
          rfl
        · unfold SeqAt.shaped
          rw [toP_lay y h1, toP_dep y h1, decide_eq_true (by omega)]
          rfl
        · rw [toPs_get] at hz'
          obtain ⟨z2, e7, e8⟩ := Option.map_eq_some_iff.mp hz'
          subst e8
          rw [toP_eqv z2 y (laids_get h2 e7) h1]
          exact e6 m z2 hm e7
        · refine k _ H F (GrowT.refl sF) (show V.int _ = V.int _ from ?_)
          rw [e3, Nat.zero_add]
      · cases e
    · cases e
theorem de_index {o e : Expr} {m : ME} {mm : MA} {apos cpos : Pos} (hK : X.K = G.K) (hu : X.A.units + 65 < cLine) (h1 : DE X G W o m) (h2 : DA X G W [e] mm)
    (hbase : attributeBase o "index" X.env (eval o X.env) = eval o X.env := by rfl)
    (hfew : ((backTo cpos (starEach [e] X.env)).all (fun x => !x.1) && (backToKw cpos (keywordEach [] X.env)).all (fun x => x.1.isSome)
      && decide (([e] : List Expr).length + ([] : List Keyword).length + (if ([] : List Keyword).isEmpty then 0 else 1) < 30)) = true := by rfl)
    (hline : (apos.endLine == cpos.line) = true := by rfl) (hs : starEach [e] X.env = (false, eval e X.env) :: starEach [] X.env := by rfl) (hplain : (backTo cpos (starEach [] X.env)).any (·.1) = false := by rfl) :
    DE X G W (.Call (.Attribute o "index" apos) [e] [] cpos) (mMeth isLst opIndex m mm) :=
  de_meth hK m_index PySem.F.plainAttrs_list PySem.F.slot_list_index PySem.F.type_list_index (by rw [← hK]; exact mt_indexD hu) h1 h2 hbase hfew hline hs hplain
end
end DL
end
section
set_option linter.all false
set_option maxRecDepth 100000
set_option maxHeartbeats 4000000
set_option autoImplicit false
namespace DL
open PySem L2 PySem.Spec PyProof.Rows RZ
section
variable {X : Cx} {G : Gx} {W : WX} {H0 F0 H F H1 F1 : Hp} {sl sl1 : Sl} {σ : L2.St}
/-! ### what is walked -/
/-- the walk yields the items, while the frozen part Fs stands -/
def WalkOk (G : Gx) (J : It) (items : List D) (Fs : Hp) : Prop := ∃ (Gd : Hp → Prop) (Y : Nat → Hp → V → Hp → Prop), Walk J items.length Gd Y ∧ (∀ F H, Same Fs F → Same F H → Gd H) ∧
  ∀ i F H x H1, i < items.length → Same Fs F → Same F H → Y i H x H1 → ∃ d F1, items[i]? = some d ∧ GrowT G F H F1 H1 ∧ Rep G.K F1 d x
theorem walk_ok {J : It} {items : List D} {Fs : Hp} {n : Nat} {Gd : Hp → Prop} {Y : Nat → Hp → V → Hp → Prop} (w : Walk J n Gd Y) (hn : items.length = n) (g : ∀ F H, Same Fs F → Same F H → Gd H)
    (y : ∀ i F H x H1, i < n → Same Fs F → Same F H → Y i H x H1 → ∃ d F1, items[i]? = some d ∧ GrowT G F H F1 H1 ∧ Rep G.K F1 d x) : WalkOk G J items Fs := by
  subst hn
  exact ⟨Gd, Y, w, g, y⟩
def IPost (G : Gx) (W : WX) (H0 F0 F : Hp) (σ : L2.St) (R : It → Hp → Prop) : IOut → Prop
  | .ok items sl => ∀ J H' F', SR G H0 F0 sl σ H' F' → Same F F' → WalkOk G J items F' → R J H'
  | .exc c sl => XPost G W H0 F0 F σ c sl
  | .bad => False
def TId (G : Gx) (W : WX) (m : MI) : TI := fun σ H R => ∃ H0 F0 F sl, SR G H0 F0 sl σ H F ∧ IPost G W H0 F0 F σ R (m sl)
abbrev DI (X : Cx) (G : Gx) (W : WX) (tg e : Expr) (m : MI) : Prop := PI X tg e (TId G W m)
theorem walk_frozen {a : Addr} {ds : List D} {vs : List V} {Fs : Hp} {J : It} (w : Walk J vs.length (fun H => H a = Fs a) (YAt vs)) (e : ∃ o, Fs a = some o) (r : Reps G.K Fs ds vs) : WalkOk G J ds Fs := by
  obtain ⟨o, e⟩ := e
  refine ⟨_, _, (show Walk J ds.length _ _ from by rw [← r.length]; exact w), fun F H s1 s2 => ?_, fun i F H x H1 hi s1 s2 y => ?_⟩
  · show H a = Fs a
    rw [e]
    exact s2 _ _ (s1 _ _ e)
  · obtain ⟨rfl, y⟩ := y
    obtain ⟨d, e1, r1⟩ := r.getV y
    exact ⟨d, F, e1, GrowT.refl s2, Rep.mono s1 _ _ r1⟩
/-- an iterable value: a list, a tuple, a text -/
theorem pi_or3 {tg e : Expr} {te : TE} (he : PE X e te) : PI X tg e (fun σ H R => te σ H fun v H1 => (∃ a, v = .ref a ∧ (∃ xs, SqL X.K H1 a xs) ∧ R (Itl X.K a) H1) ∨ (∃ a, v = .ref a ∧ (∃ xs, SqT X.K H1 a xs) ∧ R (Itt X.K a) H1) ∨ (∃ x, v = .str x ∧ R (Its x) H1)) := by
  refine ⟨fun pins s σ H R I h => ?_⟩
  refine thn (he.run pins s σ H _ I h) fun u s1 ⟨v, H1, I1, r1, q⟩ => ?_
  have kv : ∀ {te' : TE}, PE X e te' → True := fun _ => trivial
  rcases q with q | q | q
  · obtain ⟨a, e, ⟨xs, hq⟩, q⟩ := q
    subst e
    cases r1
    obtain ⟨its, rv, p, hz⟩ := I1.list hq
    exact wpAny_pyIter_list p.isList (pi_one (tk := s1.toks) I1 _ (turn_list a _) ⟨_, Heap.get?_push_size _ rfl, rfl, rfl⟩ q)
  · obtain ⟨a, e, ⟨xs, hq⟩, q⟩ := q
    subst e
    cases r1
    obtain ⟨its, rv, p, hz⟩ := I1.tuple hq
    exact wpAny_pyIter_tuple (show s1.heap.IsTuple a its.toArray from p) (pi_one (tk := s1.toks) I1 _ (turn_tuple a _) ⟨_, Heap.get?_push_size _ rfl, rfl, rfl⟩ q)
  · obtain ⟨x, e, q⟩ := q
    subst e
    obtain ⟨t, rfl⟩ := r1
    cases ha : x.cps.all (· < 128)
    · exact wpAny_pyIter_wide ha (pi_one (tk := s1.toks) I1 _ (turn_str _ x t "str_iterator" (.inr rfl)) ⟨_, Heap.get?_push_size _ rfl, rfl, rfl⟩ q)
    · exact wpAny_pyIter_ascii ha (pi_one (tk := s1.toks) I1 _ (turn_str _ x t "str_ascii_iterator" (.inl rfl)) ⟨_, Heap.get?_push_size _ rfl, rfl, rfl⟩ q)
theorem di_seq {tg e : Expr} {m : ME} (hK : X.K = G.K) (h : DE X G W e m) : DI X G W tg e (miSeq m) := by
  refine (pi_or3 h).mono fun σ H R ⟨H0, F0, F, sl, S, q⟩ => ?_
  unfold miSeq at q
  refine TEd.go S (fun c sl1 e => ?_) (fun e => ?_) fun r sl1 v H1 F1 e S1 s1 R1 => ?_
  · rw [e] at q; exact q
  · rw [e] at q; exact q
  · rw [e] at q
    dsimp only at q
    cases e1 : frz r sl1 with
    | none => rw [e1] at q; exact q.elim
    | some p =>
      obtain ⟨d, sl2⟩ := p
      rw [e1] at q
      dsimp only at q
      obtain ⟨F2, S2, s2, R2⟩ := frz_ok S1 R1 e1
      have s12 := s1.trans s2
      have sF := S2.sub
      rw [hK]
      cases d with
      | lst ds =>
        obtain ⟨hz, a, vs, rfl, ea, r⟩ := R2
        refine .inl ⟨a, rfl, ⟨vs, SqL.of (sF _ _ ea)⟩, q _ H1 F2 S2 s12 ?_⟩
        exact walk_frozen (walk_list.mono (fun H e => SqL.of (e.trans ea)) fun i H x H' _ _ y => y) ⟨_, ea⟩ r
      | tup ds =>
        obtain ⟨hz, a, vs, rfl, ea, r⟩ := R2
        refine .inr (.inl ⟨a, rfl, ⟨vs, SqT.of (sF _ _ ea)⟩, q _ H1 F2 S2 s12 ?_⟩)
        exact walk_frozen (walk_tup.mono (fun H e => SqT.of (e.trans ea)) fun i H x H' _ _ y => y) ⟨_, ea⟩ r
      | str z =>
        have R2 : v = .str z := R2
        refine .inr (.inr ⟨z, R2, q _ H1 F2 S2 s12 (walk_ok (walk_str (z := z)) (by simp) (fun _ _ _ _ => trivial) fun i F H x H' hi s1 s2 y => ?_)⟩)
        · obtain ⟨rfl, c, e1, e2⟩ := y
          exact ⟨.str ⟨#[c]⟩, F, by simp [e1], GrowT.refl s2, e2⟩
      | _ => exact q.elim
/-- arguments, frozen -/
theorem ta_frz {as : MA} {R : It → Hp → Prop} {f : List D → Option (List D)} {Q : List V → Hp → Prop} (hf : Fixed as) (q : TId G W (miOf f as) σ H R)
    (h : ∀ H0 F0 ds vs items sl H1 F1, SR G H0 F0 sl σ H1 F1 → Reps G.K F1 ds vs → f ds = some items → (∀ J H', (∃ F', GrowT G F1 H1 F' H' ∧ WalkOk G J items F') → R J H') → Q vs H1) : TAd G W as σ H Q := by
  obtain ⟨H0, F0, F, sl, S, q⟩ := q
  refine ⟨H0, F0, F, sl, S, ?_⟩
  unfold miOf at q
  cases e : as sl with
  | exc c sl1 => rw [e] at q; exact q
  | bad => rw [e] at q; exact q
  | ok rs sl1 =>
    rw [e] at q
    dsimp only at q
    intro vs H1 F1 S1 s1 R1
    cases e1 : frzAll rs sl1 with
    | none => rw [e1] at q; exact q.elim
    | some p =>
      obtain ⟨ds, sl2⟩ := p
      rw [e1] at q
      dsimp only at q
      obtain ⟨F2, S2, s2, R2⟩ := frzAll_ok S1 (hf _ _ _ e) R1 e1
      cases e2 : f ds with
      | none => rw [e2] at q; exact q.elim
      | some items =>
        rw [e2] at q
        exact h H0 F0 ds vs items sl2 H1 F2 S2 R2 e2 fun J H' ⟨F', g, w⟩ => q J H' F' (S2.to g.1 (g.2 S2.tabs)) ((s1.trans s2).trans g.1.fsub) w
theorem di_range {tg a : Expr} {as : MA} {p pos : Pos} (hg : Gl X "range") (hm : X.mg "range" = none) (ha : DA X G W [a] as) (hf : Fixed as) (hs : starEach [a] X.env = [(false, eval a X.env)] := by rfl) :
    DI X G W tg (.Call (.Name "range" p) [a] [] pos) (miOf rangeOf as) := by
  refine (pi_range1 hg hm ha hs).mono fun σ H R q => ta_frz hf q fun H0 F0 ds vs items sl H1 F1 S r e k => ?_
  unfold rangeOf at e
  split at e
  · rename_i j
    split at e
    · rename_i hj
      cases e
      simp only [Reps] at r
      obtain ⟨v, ws, rfl, r1, rfl⟩ := r
      have r1 : v = .int j := r1
      subst r1
      refine ⟨j, rfl, hj.1, hj.2, k _ H1 ⟨F1, GrowT.refl S.sub, walk_ok (walk_range (lo := 0) (n := j.toNat)) (by simp) (fun _ _ _ _ => trivial) fun i F H x H' hi s1 s2 y => ?_⟩⟩
      · obtain ⟨rfl, e2⟩ := y
        exact ⟨.int (i : Nat), F, by simp [hi], GrowT.refl s2, by rw [e2]; show V.int (0 + (i : Int)) = V.int (i : Int); rw [Int.zero_add]⟩
    · cases e
  · cases e
theorem enum_len : ∀ (k : Nat) (ds : List D), (enumFrom k ds).length = ds.length
  | _, [] => rfl
  | k, d :: ds => by simp [enumFrom, enum_len (k + 1) ds]
theorem enum_get : ∀ (k i : Nat) (ds : List D), (enumFrom k ds)[i]? = (ds[i]?).map fun d => .tup [.int ((k + i : Nat) : Int), d]
  | _, _, [] => by simp [enumFrom]
  | k, 0, d :: ds => by simp [enumFrom]
  | k, i + 1, d :: ds => by
    simp only [enumFrom, List.getElem?_cons_succ, enum_get (k + 1) i ds]
    rw [show k + 1 + i = k + (i + 1) from by omega]
theorem two_le : 2 ≤ sizeLine := by rw [sizeLine_eq]; decide
theorem di_enum {e : Expr} {as : MA} {p pos tpos : Pos} {elts : List Expr} {kk : Nat} (hK : X.K = G.K) (hg : Gl X "enumerate") (hm : X.mg "enumerate" = none) (ha : DA X G W [e] as) (hf : Fixed as) (hs : starEach [e] X.env = [(false, eval e X.env)] := by rfl) :
    DI X G W (.Tuple elts kk tpos) (.Call (.Name "enumerate" p) [e] [] pos) (miOf enumOf as) := by
  refine (pi_enum hg hm ha hs).mono fun σ H R q => ta_frz hf q fun H0 F0 ds vs items sl H1 F1 S r e k => ?_
  unfold enumOf at e
  split at e
  · rename_i es
    cases e
    simp only [Reps] at r
    obtain ⟨v, ws, rfl, r1, rfl⟩ := r
    obtain ⟨hz, a, vs, rfl, ea, r⟩ := r1
    rw [hK]
    refine ⟨a, vs, rfl, SqL.of (S.sub _ _ ea), k _ H1 ⟨F1, GrowT.refl S.sub, walk_ok (walk_enum (K := G.K) (a := a) (xs := vs)) (by rw [enum_len, r.length]) (fun F H s1 s2 => SqL.of (s2 _ _ (s1 _ _ ea))) fun i F H x H' hi s1 s2 y => ?_⟩⟩
    · obtain ⟨T, x1, x2, rfl, hT, rfl, e1, e2⟩ := y
      cases e1
      obtain ⟨d, e3, r3⟩ := r.getV e2
      refine ⟨.tup [.int (i : Nat), d], upd F T (.tup [.int (i : Nat), x2]), by rw [enum_get, e3]; simp, GrowT.allocF s2 _ hT, ?_⟩
      exact ⟨two_le, T, _, rfl, upd_same, _, _, rfl, rfl, _, _, rfl, Rep.mono (s1.trans (Grow.allocF s2 _ hT).fsub) _ _ r3, rfl⟩
  · cases e
theorem walk_zipT {K : PySem.W.Frag} {a b : Addr} {xs ys : List V} {n : Nat} (hn : n = min xs.length ys.length) : Walk (ItzT K a b) n (fun H => SqT K H a xs ∧ SqT K H b ys) (YPair (fun i => xs[i]?) (fun i => ys[i]?)) := by
  subst hn
  refine ⟨fun i _ hi q => ?_, fun _ q => ⟨xs, ys, q.1, q.2, by omega⟩, fun i H v H' _ q y => ?_⟩
  · have h1 : i < xs.length := by omega
    have h2 : i < ys.length := by omega
    exact ⟨xs, ys, xs[i], ys[i], q.1, q.2, by simp [h1], by simp [h2]⟩
  · obtain ⟨T, x, z, h1, h2, h3, h4, h5⟩ := y
    exact ⟨T, x, z, h1, h2, h3, h4 xs q.1, h5 ys q.2⟩
theorem di_zip {e e2 : Expr} {as : MA} {p pos tpos : Pos} {elts : List Expr} {kk : Nat} (hK : X.K = G.K) (hg : Gl X "zip") (hm : X.mg "zip" = none) (ha : DA X G W [e, e2] as) (hf : Fixed as)
    (hs : starEach [e, e2] X.env = (false, eval e X.env) :: starEach [e2] X.env := by rfl) (hpl : (backTo pos (starEach [e2] X.env)).any (·.1) = false := by rfl) :
    DI X G W (.Tuple elts kk tpos) (.Call (.Name "zip" p) [e, e2] [] pos) (miOf zipOf as) := by
  refine (pi_zipA hg hm ha hs hpl).mono fun σ H R q => ta_frz hf q fun H0 F0 ds vs items sl H1 F1 S r e k => ?_
  have pair : ∀ {ds es : List D} {xs ys : List V} {i : Nat} {Fx F H : Hp} {x : V} {H' : Hp}, Reps G.K Fx ds xs → Reps G.K Fx es ys → Same Fx F → Same F H → YPair (fun i => xs[i]?) (fun i => ys[i]?) i H x H' →
      ∃ d F1, ((ds.zip es).map fun p => D.tup [p.1, p.2])[i]? = some d ∧ GrowT G F H F1 H' ∧ Rep G.K F1 d x := by
    intro ds es xs ys i Fx F H x H' r1 r2 s1 s2 y
    obtain ⟨T, x1, x2, rfl, hT, rfl, e1, e2⟩ := y
    obtain ⟨d1, e3, r3⟩ := r1.getV e1
    obtain ⟨d2, e4, r4⟩ := r2.getV e2
    have s3 := s1.trans (Grow.allocF s2 (.tup [x1, x2]) hT).fsub
    refine ⟨.tup [d1, d2], upd F T (.tup [x1, x2]), ?_, GrowT.allocF s2 _ hT, ?_⟩
    · have : (ds.zip es)[i]? = some (d1, d2) := by rw [List.getElem?_zip_eq_some]; exact ⟨e3, e4⟩
      simp [this]
    · exact ⟨two_le, T, _, rfl, upd_same, _, _, rfl, Rep.mono s3 _ _ r3, _, _, rfl, Rep.mono s3 _ _ r4, rfl⟩
  unfold zipOf at e
  split at e
  · cases e
    simp only [Reps] at r
    obtain ⟨v, ws, rfl, r1, v2, ws2, rfl, r2, rfl⟩ := r
    obtain ⟨hz1, a, xs, rfl, ea, r1⟩ := r1
    obtain ⟨hz2, b, ys, rfl, eb, r2⟩ := r2
    rw [hK]
    refine ⟨a, b, xs, ys, rfl, .inl ⟨SqL.of (S.sub _ _ ea), SqL.of (S.sub _ _ eb), k _ H1 ⟨F1, GrowT.refl S.sub, walk_ok (walk_zip (K := G.K) (a := a) (b := b) (xs := xs) (ys := ys) rfl) (by simp [r1.length, r2.length]) (fun F H s1 s2 => ⟨SqL.of (s2 _ _ (s1 _ _ ea)), SqL.of (s2 _ _ (s1 _ _ eb))⟩) fun i F H x H' hi s1 s2 y => pair r1 r2 s1 s2 y⟩⟩⟩
  · cases e
    simp only [Reps] at r
    obtain ⟨v, ws, rfl, r1, v2, ws2, rfl, r2, rfl⟩ := r
    obtain ⟨hz1, a, xs, rfl, ea, r1⟩ := r1
    obtain ⟨hz2, b, ys, rfl, eb, r2⟩ := r2
    rw [hK]
    refine ⟨a, b, xs, ys, rfl, .inr ⟨SqT.of (S.sub _ _ ea), SqT.of (S.sub _ _ eb), k _ H1 ⟨F1, GrowT.refl S.sub, walk_ok (walk_zipT (K := G.K) (a := a) (b := b) (xs := xs) (ys := ys) rfl) (by simp [r1.length, r2.length]) (fun F H s1 s2 => ⟨SqT.of (s2 _ _ (s1 _ _ ea)), SqT.of (s2 _ _ (s1 _ _ eb))⟩) fun i F H x H' hi s1 s2 y => pair r1 r2 s1 s2 y⟩⟩⟩
  · cases e
end
end DL
end
section
set_option linter.all false
set_option maxRecDepth 100000
set_option maxHeartbeats 4000000
set_option autoImplicit false
namespace DL
open PySem L2 PySem.Spec PyProof.Rows
section
variable {X : Cx} {G : Gx} {W : WX} {H0 F0 H F H1 F1 : Hp} {sl sl1 : Sl} {σ : L2.St} {D : Ends}
/-! ### statements -/
def SPost (G : Gx) (W : WX) (H0 F0 F : Hp) (D : Ends) : SOut → Prop
  | .nx sl => ∀ σ' H' F', SR G H0 F0 sl σ' H' F' → Same F F' → D.nx σ' H'
  | .bk sl => ∀ σ' H' F', SR G H0 F0 sl σ' H' F' → Same F F' → D.bk σ' H'
  | .ct sl => ∀ σ' H' F', SR G H0 F0 sl σ' H' F' → Same F F' → D.ct σ' H'
  | .rt d fr => ∀ v H' F', GrowT G F0 H0 F' H' → LamX.Tabs G.T H' → ResOk G.K H0 H' F' (if fr = true then .new d else .dat d) v → D.rt v H'
  | .exc c sl => ∀ σ' H' F', SR G H0 F0 sl σ' H' F' → Same F F' → W (.ref (He.ga G.K c)) none σ' H'
  | .bad => False
def TSd (G : Gx) (W : WX) (m : MS) : TS := fun D σ H => ∃ H0 F0 F sl, SR G H0 F0 sl σ H F ∧ SPost G W H0 F0 F D (m sl)
abbrev DS (X : Cx) (G : Gx) (W : WX) (st : Stmt) (m : MS) : Prop := PS X st (TSd G W m)
abbrev DSs (X : Cx) (G : Gx) (W : WX) (sts : List Stmt) (m : MS) : Prop := PSs X sts (TSd G W m)
theorem SPost.on {o : SOut} (h : SPost G W H0 F0 F D o) (s : Same F F1) : SPost G W H0 F0 F1 D o := by
  cases o with
  | nx sl => exact fun σ H' F' S s' => h σ H' F' S (s.trans s')
  | bk sl => exact fun σ H' F' S s' => h σ H' F' S (s.trans s')
  | ct sl => exact fun σ H' F' S s' => h σ H' F' S (s.trans s')
  | rt d fr => exact h
  | exc c sl => exact fun σ H' F' S s' => h σ H' F' S (s.trans s')
  | bad => exact h
theorem TEd.sbind {m : ME} {k : Rv → Sl → SOut} {R : V → Hp → Prop} (S : SR G H0 F0 sl σ H F) (q : SPost G W H0 F0 F D ((m sl).sbind k))
    (i : ∀ r sl1 v H1 F1, SR G H0 F0 sl1 σ H1 F1 → Same F F1 → RvOk G H0 H1 F1 sl1 σ r v → SPost G W H0 F0 F1 D (k r sl1) → R v H1) : TEd G W m σ H R := by
  refine TEd.go S (fun c sl1 e => ?_) (fun e => ?_) fun r sl1 v H1 F1 e S1 s1 R1 => i r sl1 v H1 F1 S1 s1 R1 ?_
  · rw [e] at q; exact fun H' F' S' s' => q σ H' F' S' s'
  · rw [e] at q; exact q
  · rw [e] at q; exact SPost.on q s1
theorem TTd.sbind {t : MT} {k : Bool → Sl → SOut} {R : Bool → Hp → Prop} (S : SR G H0 F0 sl σ H F) (q : SPost G W H0 F0 F D ((t sl).sbind k))
    (i : ∀ b sl1 H1 F1, SR G H0 F0 sl1 σ H1 F1 → SPost G W H0 F0 F1 D (k b sl1) → R b H1) : TTd G W t σ H R := by
  refine TTd.go S (fun c sl1 e => ?_) (fun e => ?_) fun b sl1 H1 F1 e S1 s1 => ?_
  · rw [e] at q; exact fun H' F' S' s' => q σ H' F' S' s'
  · rw [e] at q; exact q
  · rw [e] at q; exact i b sl1 H1 F1 S1 (SPost.on q s1)
theorem dss_nil : DSs X G W [] msNil := pss_nil.mono fun D σ H ⟨H0, F0, F, sl, S, q⟩ => q σ H F S (Same.refl F)
theorem ts_seq {a b : MS} (q : TSd G W (msSeq a b) D σ H) : tSeq (TSd G W a) (TSd G W b) D σ H := by
  obtain ⟨H0, F0, F, sl, S, q⟩ := q
  refine ⟨H0, F0, F, sl, S, ?_⟩
  unfold msSeq at q
  cases e : a sl with
  | nx sl1 => rw [e] at q; exact fun σ' H' F' S' s' => ⟨H0, F0, F', sl1, S', SPost.on q s'⟩
  | bk sl1 => rw [e] at q; exact q
  | ct sl1 => rw [e] at q; exact q
  | rt d fr => rw [e] at q; exact q
  | exc c sl1 => rw [e] at q; exact q
  | bad => rw [e] at q; exact q
theorem dss_cons {st : Stmt} {rest : List Stmt} {a b : MS} (h : DS X G W st a) (k : DSs X G W rest b) : DSs X G W (st :: rest) (msSeq a b) := (pss_cons h k).mono fun D σ H q => ts_seq q
theorem dss_one {st : Stmt} {a : MS} (h : DS X G W st a) : DSs X G W [st] a := pss_one h
theorem ds_pass {pos : Pos} : DS X G W (.Pass pos) msPass := ps_pass.mono fun D σ H ⟨H0, F0, F, sl, S, q⟩ => q σ H F S (Same.refl F)
theorem ds_break {pos : Pos} : DS X G W (.Break pos) msBreak := ps_break.mono fun D σ H ⟨H0, F0, F, sl, S, q⟩ => q σ H F S (Same.refl F)
theorem ds_cont {pos : Pos} : DS X G W (.Continue pos) msCont := ps_continue.mono fun D σ H ⟨H0, F0, F, sl, S, q⟩ => q σ H F S (Same.refl F)
theorem ds_doc {x : Str} {j : Nat} {pos pos' : Pos} : DS X G W (.Expr (.Constant (.str x) j pos) pos') msPass := ps_doc.mono fun D σ H ⟨H0, F0, F, sl, S, q⟩ => q σ H F S (Same.refl F)
theorem ds_expr {e : Expr} {m : ME} {pos : Pos} (h : DE X G W e m) (hs : swapsWith e none pos.line X.env = pure false := by rfl) : DS X G W (.Expr e pos) (msExpr m) :=
  (ps_expr h hs).mono fun D σ H ⟨H0, F0, F, sl, S, q⟩ => TEd.sbind S q fun r sl1 v H1 F1 S1 s1 R1 q1 => q1 σ H1 F1 S1 (Same.refl _)
/-- a value is stored -/
theorem storeRv_ok {i : Nat} {r : Rv} {v : V} {sl2 : Sl} (S : SR G H0 F0 sl σ H F) (h : RvOk G H0 H F sl σ r v) (e : storeRv i r sl = some sl2) : ∃ F', Same F F' ∧ SR G H0 F0 sl2 (σ.set i (some v)) H F' := by
  cases r with
  | dat d => cases e; exact ⟨F, Same.refl F, S.put ⟨v, rfl, h⟩ rfl⟩
  | new d =>
    cases e
    obtain ⟨a, rfl, f, z, w, ap⟩ := h
    exact ⟨F, Same.refl F, S.putOwn (s := .own d) ⟨a, rfl, f, z, w⟩ ap⟩
  | slot j =>
    have h : σ[j]? = some (some v) := h
    simp only [storeRv] at e
    split at e
    · rename_i d q
      cases e
      obtain ⟨u, e1, r1⟩ := S.rel j _ q
      rw [h] at e1
      cases e1
      exact ⟨F, Same.refl F, S.put ⟨v, rfl, r1⟩ rfl⟩
    · rename_i d q
      cases e
      obtain ⟨a, F', e1, s', R', S'⟩ := S.freeze q
      rw [h] at e1
      cases e1
      exact ⟨F', s', S'.put ⟨_, rfl, R'⟩ rfl⟩
    · rename_i d q
      cases e
      obtain ⟨f, e1, r1⟩ := S.rel j _ q
      rw [h] at e1
      cases e1
      exact ⟨F, Same.refl F, S.put (s := .thk d) ⟨f, rfl, r1⟩ rfl⟩
    · rename_i d q
      cases e
      obtain ⟨a, fs, e1, r1⟩ := S.rel j _ q
      rw [h] at e1
      cases e1
      exact ⟨F, Same.refl F, S.put (s := .thks d) ⟨a, fs, rfl, r1⟩ rfl⟩
    · cases e
theorem ts_set {i : Nat} {m : ME} (q : TSd G W (msSet i m) D σ H) : tAsg (TEd G W m) (gName i) D σ H := by
  obtain ⟨H0, F0, F, sl, S, q⟩ := q
  refine TEd.sbind S q fun r sl1 v H1 F1 S1 s1 R1 q1 => ?_
  cases e : storeRv i r sl1 with
  | none => rw [e] at q1; exact q1.elim
  | some sl2 =>
    rw [e] at q1
    obtain ⟨F2, s2, S2⟩ := storeRv_ok S1 R1 e
    exact q1 _ H1 F2 S2 s2
theorem ds_set {i : Nat} {x : Str} {e : Expr} {m : ME} {pos pos' : Pos} (hN : X.N.Nodup) (hi : X.N[i]? = some x) (hx : Loc X.env.scope x) (he : DE X G W e m) (hs : swapsWith e (some (.Name x pos')) pos.line X.env = pure false := by rfl)
    (hf : X.fn x = true ∨ X.env.scope.names.lookup x = some .local := by first | exact .inl rfl | exact .inr rfl | assumption) : DS X G W (.Assign [.Name x pos'] e pos) (msSet i m) :=
  (ps_set hN hi hx he hs hf).mono fun D σ H q => ts_set q
theorem ds_if {c : Expr} {a b : List Stmt} {t : MT} {ma mb : MS} {pos : Pos} (hc : DT X G W c t) (ha : DSs X G W a ma) (hb : DSs X G W b mb) : DS X G W (.If c a b pos) (msIf t ma mb) :=
  (ps_if hc ha hb).mono fun D σ H ⟨H0, F0, F, sl, S, q⟩ => TTd.sbind S q fun b sl1 H1 F1 S1 q1 => by
    cases b with
    | true => rw [if_pos rfl] at q1 ⊢; exact ⟨H0, F0, F1, sl1, S1, q1⟩
    | false => rw [if_neg Bool.false_ne_true] at q1 ⊢; exact ⟨H0, F0, F1, sl1, S1, q1⟩
theorem SR.growT (S : SR G H0 F0 sl σ H F) : GrowT G F0 H0 F H := ⟨S.grow, fun _ => S.tabs⟩
theorem ds_ret {e : Expr} {m : ME} {pos : Pos} (h : DE X G W e m) : DS X G W (.Return (some e) pos) (msRet m) :=
  (ps_ret h).mono fun D σ H ⟨H0, F0, F, sl, S, q⟩ => TEd.sbind S q fun r sl1 v H1 F1 S1 s1 R1 q1 => by
    cases r with
    | dat d => exact q1 v H1 F1 S1.growT S1.tabs R1
    | new d =>
      obtain ⟨a, e, f, z, w, _⟩ := R1
      exact q1 v H1 F1 S1.growT S1.tabs ⟨a, e, f, z, w⟩
    | slot i =>
      have h : σ[i]? = some (some v) := R1
      dsimp only at q1
      split at q1
      · rename_i d e
        obtain ⟨u, e1, r1⟩ := S1.rel i _ e
        rw [h] at e1
        cases e1
        exact q1 v H1 F1 S1.growT S1.tabs r1
      · rename_i d e
        obtain ⟨a, e1, f, z, w⟩ := S1.rel i _ e
        rw [h] at e1
        cases e1
        exact q1 _ H1 F1 S1.growT S1.tabs ⟨a, rfl, f, z, w⟩
      · exact q1.elim
theorem ds_retN {pos : Pos} : DS X G W (.Return none pos) msRetN := ps_retN.mono fun D σ H ⟨H0, F0, F, sl, S, q⟩ => q .non H F S.growT S.tabs rfl
/-! ### targets -/
def TGd (G : Gx) (g : MG) : TG := fun v σ H Q => ∃ H0 F0 F sl d sl1, SR G H0 F0 sl σ H F ∧ Rep G.K F d v ∧ g d sl = some sl1 ∧ ∀ σ', SR G H0 F0 sl1 σ' H F → Q σ' H
abbrev DG (X : Cx) (G : Gx) (tg : Expr) (g : MG) : Prop := PG X tg (TGd G g)
theorem _root_.L2.PG.mono {X : Cx} {e : Expr} {t t' : TG} (h : PG X e t) (i : ∀ v σ H Q, t' v σ H Q → t v σ H Q) : PG X e t' := ⟨fun pins s σ H v u Q I r q => h.run pins s σ H v u Q I r (i v σ H Q q)⟩
theorem dg_name {i : Nat} {x : Str} {pos : Pos} (hN : X.N.Nodup) (hi : X.N[i]? = some x) (hx : Loc X.env.scope x) (hf : X.fn x = true ∨ X.env.scope.names.lookup x = some .local := by first | exact .inl rfl | exact .inr rfl | assumption) : DG X G (.Name x pos) (gSet i) :=
  (pg_name hN hi hx hf).mono fun v σ H Q ⟨H0, F0, F, sl, d, sl1, S, r, e, k⟩ => by
    cases e
    exact k _ (S.put ⟨v, rfl, r⟩ rfl)
/-- names stored, one after another -/
inductive TgNames (X : Cx) : List Expr → List Nat → Prop where
  | nil : TgNames X [] []
  | cons {x : Str} {pos : Pos} {i : Nat} {es : List Expr} {is : List Nat} (h : PG X (.Name x pos) (gName i)) (t : TgNames X es is) : TgNames X (.Name x pos :: es) (i :: is)
def gNames : List Nat → TGs
  | [] => gNil
  | i :: is => gCons (gName i) (gNames is)
theorem names_pgs {es : List Expr} {is : List Nat} (h : TgNames X es is) : PGs X es (gNames is) := by
  induction h with
  | nil => exact pgs_nil
  | cons h t ih => exact pgs_cons h ih
theorem gNames_ok : ∀ {is : List Nat} {ds : List DL.D} {vs : List V} {sl sl1 : Sl} {σ : L2.St} {Q : L2.St → Hp → Prop}, SR G H0 F0 sl σ H F → Reps G.K F ds vs → gSets is ds sl = some sl1 → (∀ σ', SR G H0 F0 sl1 σ' H F → Q σ' H) → gNames is vs σ H Q
  | [], [], vs, sl, sl1, σ, Q, S, r, e, k => by
    cases e
    simp only [Reps] at r
    exact ⟨r, k σ S⟩
  | [], d :: ds, vs, sl, sl1, σ, Q, S, r, e, k => by cases e
  | i :: is, [], vs, sl, sl1, σ, Q, S, r, e, k => by cases e
  | i :: is, d :: ds, vs, sl, sl1, σ, Q, S, r, e, k => by
    simp only [Reps] at r
    obtain ⟨v, ws, rfl, r1, r2⟩ := r
    exact ⟨v, ws, rfl, gNames_ok (S.put (s := .val d) ⟨v, rfl, r1⟩ rfl) r2 e k⟩
theorem gSets_len : ∀ {is : List Nat} {ds : List DL.D} {sl sl1 : Sl}, gSets is ds sl = some sl1 → ds.length = is.length
  | [], [], _, _, _ => rfl
  | [], _ :: _, _, _, e => by cases e
  | _ :: _, [], _, _, e => by cases e
  | i :: is, d :: ds, sl, sl1, e => by rw [List.length_cons, List.length_cons, gSets_len (is := is) (ds := ds) e]
theorem dg_tup {es : List Expr} {is : List Nat} {k : Nat} {pos : Pos} (hK : X.K = G.K) (hc : X.calm = true) (h : TgNames X es is) (hn : (assignEach es X.env).length = is.length := by rfl) (hst : (assignEach es X.env).findIdx? (·.1) = none := by rfl) : DG X G (.Tuple es k pos) (gTups is) :=
  (pg_tup hc (names_pgs h) hn hst).mono fun v σ H Q ⟨H0, F0, F, sl, d, sl1, S, r, e, k⟩ => by
    unfold gTups at e
    split at e
    · obtain ⟨hz, a, vs, rfl, ea, r⟩ := r
      exact ⟨a, vs, rfl, by rw [hK]; exact SqT.of (S.sub _ _ ea), by rw [r.length, gSets_len e], gNames_ok S r e k⟩
    · cases e
theorem ds_unp {es : List Expr} {is : List Nat} {k : Nat} {e : Expr} {m : ME} {p pos : Pos} (hK : X.K = G.K) (hc : X.calm = true) (h : TgNames X es is) (he : DE X G W e m) (hn : (assignEach es X.env).length = is.length := by rfl) (hst : (assignEach es X.env).findIdx? (·.1) = none := by rfl)
    (hs : swapsWithSole [.Tuple es k p] e pos.line X.env = pure false := by rfl) (hw : swappedStores [.Tuple es k p] e X.env = pure none := by rfl) (h1 : (assignEach [.Tuple es k p] X.env).map (·.2) = [assign (.Tuple es k p) X.env] := by rfl) :
    DS X G W (.Assign [.Tuple es k p] e pos) (msUnp is m) :=
  (ps_asg he (dg_tup hK hc h hn hst) hs hw h1).mono fun D σ H ⟨H0, F0, F, sl, S, q⟩ => TEd.sbind S q fun r sl1 v H1 F1 S1 s1 R1 q1 => by
    cases e1 : frz r sl1 with
    | none => rw [e1] at q1; exact q1.elim
    | some p =>
      obtain ⟨d, sl2⟩ := p
      rw [e1] at q1
      dsimp only at q1
      obtain ⟨F2, S2, s2, R2⟩ := frz_ok S1 R1 e1
      cases e2 : gTups is d sl2 with
      | none => rw [e2] at q1; exact q1.elim
      | some sl3 =>
        rw [e2] at q1
        exact ⟨H0, F0, F2, sl2, d, sl3, S2, R2, e2, fun σ' S3 => q1 σ' H1 F2 S3 s2⟩
/-! ### loops -/
theorem for_ok {J : It} {items : List DL.D} {g : MG} {tb : MS} {dead : List Nat} (S : SR G H0 F0 sl σ H F) (w : WalkOk G J items F) (q : SPost G W H0 F0 F D (forLoop dead g tb items sl)) :
    ∃ Wm : Nat → Nat → L2.St → Hp → Prop, (∃ m, Wm 0 m σ H) ∧ ∀ i m σ H, Wm i m σ H →
      (J.stop i H ∧ D.nx σ H) ∨ (J.go i H ∧ ∃ N : L2.St → Hp → Prop, (∀ σ' H', N σ' H' → ∃ m', m' < m ∧ Wm (i + 1) m' σ' H') ∧ ∀ x H', J.yld i H x H' → TGd G g x σ H' fun σ2 H2 => TSd G W tb { D with nx := N, ct := N, bk := D.nx } σ2 H2) := by
  obtain ⟨Gd, Y, w, wg, wy⟩ := w
  refine for_it w (fun i σ' H' => ∃ F' sl', SR G H0 F0 sl' σ' H' F' ∧ Same F F' ∧ SPost G W H0 F0 F' D (forLoop dead g tb (items.drop i) sl')) ⟨F, sl, S, Same.refl F, q⟩ (fun i σ' H' hi ⟨F', sl', S', s', _⟩ => wg F' H' s' S'.sub) (fun i x σ' H' H2 hi ⟨F', sl', S', s', q'⟩ y => ?_) fun σ' H' ⟨F', sl', S', s', q'⟩ => ?_
  · obtain ⟨d, F2, e, gr, rx⟩ := wy i F' H' x H2 hi s' S'.sub y
    have S2 := S'.to gr.1 (gr.2 S'.tabs)
    have q2 := SPost.on q' gr.1.fsub
    obtain ⟨e1, e2⟩ : ∃ h : i < items.length, items[i] = d := List.getElem?_eq_some_iff.mp e
    rw [List.drop_eq_getElem_cons e1, e2] at q2
    simp only [forLoop] at q2
    cases e3 : g d sl' with
    | none => rw [e3] at q2; exact q2.elim
    | some sl2 =>
      rw [e3] at q2
      dsimp only at q2
      refine ⟨H0, F0, F2, sl', d, sl2, S2, rx, e3, fun σ3 S3 => ⟨H0, F0, F2, sl2, S3, ?_⟩⟩
      have s2 := s'.trans gr.1.fsub
      cases e4 : tb sl2 with
      | nx sl3 => rw [e4] at q2; exact fun σ4 H4 F4 S4 s4 => ⟨F4, _, S4.wipe dead, s2.trans s4, SPost.on q2 s4⟩
      | ct sl3 => rw [e4] at q2; exact fun σ4 H4 F4 S4 s4 => ⟨F4, _, S4.wipe dead, s2.trans s4, SPost.on q2 s4⟩
      | bk sl3 => rw [e4] at q2; exact fun σ4 H4 F4 S4 s4 => q2 σ4 H4 F4 (S4.wipe dead) s4
      | rt d fr => rw [e4] at q2; exact q2
      | exc c sl3 => rw [e4] at q2; exact q2
      | bad => rw [e4] at q2; exact q2
  · rw [List.drop_length] at q'
    exact q' σ' H' F' S' (Same.refl _)
theorem ds_for {tg iter : Expr} {body : List Stmt} {mi : MI} {g : MG} {mb : MS} {pos : Pos} (dead : List Nat) (hp : PassesOwn (model X.prog X.w) X.A X.env X.xe) (hc : X.calm = true) (hi : DI X G W tg iter mi) (hg : DG X G tg g) (hb : DSs X G W body mb)
    (hs : ∀ x, foldedSetIterable iter X.env x = pure x := by intro _; rfl) : DS X G W (.For tg iter body [] pos) (msFor dead mi g mb) :=
  (ps_for hp hc hi hg hb hs).mono fun D σ H ⟨H0, F0, F, sl, S, q⟩ => by
    refine ⟨H0, F0, F, sl, S, ?_⟩
    unfold msFor at q
    cases e : mi sl with
    | ok items sl1 => rw [e] at q; exact fun J H' F' S' s' w => for_ok (S'.wipe dead) w (SPost.on q s')
    | exc c sl1 => rw [e] at q; exact fun H' F' S' s' => q σ H' F' S' s'
    | bad => rw [e] at q; exact q
theorem ds_while {c : Expr} {body : List Stmt} {t : MT} {mb : MS} {pos : Pos} (dead : List Nat) (n : Nat) (hp : PassesOwn (model X.prog X.w) X.A X.env X.xe) (hc : DT X G W c t) (hb : DSs X G W body mb) : DS X G W (.While c body [] pos) (msWhile dead n t mb) :=
  (ps_while hp hc hb).mono fun D σ H ⟨H0, F0, F, sl, S, q⟩ => by
    refine ⟨fun m σ' H' => ∃ F' sl', SR G H0 F0 sl' σ' H' F' ∧ SPost G W H0 F0 F' D (whileLoop dead t mb m sl'), ⟨n, F, _, S.wipe dead, q⟩, fun m σ' H' ⟨F', sl', S', q'⟩ => ?_⟩
    cases m with
    | zero => exact q'.elim
    | succ m =>
      refine ⟨H0, F0, F', sl', S', ?_⟩
      unfold whileLoop at q'
      cases e : t sl' with
      | exc c sl1 => rw [e] at q'; exact fun H2 F2 S2 s2 => q' σ' H2 F2 S2 s2
      | bad => rw [e] at q'; exact q'
      | ok b sl1 =>
        rw [e] at q'
        cases b with
        | false =>
          intro H2 F2 S2 s2
          rw [if_neg Bool.false_ne_true]
          exact q' σ' H2 F2 S2 s2
        | true =>
          dsimp only at q'
          intro H2 F2 S2 s2
          rw [if_pos rfl]
          refine ⟨fun σ3 H3 => ∃ F3 sl3, SR G H0 F0 sl3 σ3 H3 F3 ∧ SPost G W H0 F0 F3 D (whileLoop dead t mb m sl3), fun σ3 H3 h => ⟨m, Nat.lt_succ_self m, h⟩, H0, F0, F2, sl1, S2, ?_⟩
          have q2 := SPost.on q' s2
          cases e4 : mb sl1 with
          | nx sl3 => rw [e4] at q2; exact fun σ4 H4 F4 S4 s4 => ⟨F4, _, S4.wipe dead, SPost.on q2 s4⟩
          | ct sl3 => rw [e4] at q2; exact fun σ4 H4 F4 S4 s4 => ⟨F4, _, S4.wipe dead, SPost.on q2 s4⟩
          | bk sl3 => rw [e4] at q2; exact fun σ4 H4 F4 S4 s4 => q2 σ4 H4 F4 (S4.wipe dead) s4
          | rt d fr => rw [e4] at q2; exact q2
          | exc c sl3 => rw [e4] at q2; exact q2
          | bad => rw [e4] at q2; exact q2
end
end DL
end
section
set_option linter.all false
set_option maxRecDepth 100000
set_option maxHeartbeats 4000000
set_option autoImplicit false
namespace DL
open PySem L2 PySem.Spec PyProof.Rows
section
variable {X : Cx} {G : Gx} {W : WX} {H0 F0 H F H1 F1 : Hp} {sl sl1 : Sl} {σ : L2.St}
/-! ### comprehensions -/
/-- in a block nothing is let out -/
abbrev W0 : WX := fun _ _ _ _ => False
theorem wipeSl_len (is : List Nat) (sl : Sl) : (wipeSl is sl).length = sl.length := by
  induction is with
  | nil => rfl
  | cons i is ih => simp only [wipeSl, List.length_set, ih]
theorem wipe_at {is : List Nat} {i : Nat} (h : i ∈ is) {s : Slot} (e : (wipeSl is sl)[i]? = some s) : s = .no := by
  induction is with
  | nil => cases h
  | cons j is ih =>
    simp only [wipeSl] at e
    by_cases q : j = i
    · subst q
      rw [List.getElem?_set_self (by
        have := (List.getElem?_eq_some_iff.mp e).1
        rwa [List.length_set] at this)] at e
      cases e
      rfl
    · rw [List.getElem?_set_ne q] at e
      rcases List.mem_cons.mp h with rfl | h
      · exact absurd rfl q
      · exact ih h e
theorem wipe_ne {is : List Nat} {i : Nat} (h : i ∉ is) : (wipeSl is sl)[i]? = sl[i]? := by
  induction is with
  | nil => rfl
  | cons j is ih =>
    simp only [List.mem_cons, not_or] at h
    simp only [wipeSl]
    rw [List.getElem?_set_ne (fun e => h.1 e.symm)]
    exact ih h.2
theorem back_at {old : Sl} : ∀ {is : List Nat} {i : Nat} {s : Slot}, (backSl is old sl)[i]? = some s → (i ∉ is ∧ sl[i]? = some s) ∨ (∃ t, old[i]? = some t ∧ s = if t.mine = true then .no else t) ∨ (i ∈ is ∧ old[i]? = none ∧ sl[i]? = some s)
  | [], i, s, e => .inl ⟨by simp, e⟩
  | j :: is, i, s, e => by
    simp only [backSl] at e
    cases q : old[j]? with
    | none =>
      rw [q] at e
      rcases back_at e with ⟨h1, h2⟩ | h | ⟨h1, h2, h3⟩
      · by_cases z : i = j
        · subst z; exact .inr (.inr ⟨List.mem_cons_self, q, h2⟩)
        · exact .inl ⟨by simp only [List.mem_cons, not_or]; exact ⟨z, h1⟩, h2⟩
      · exact .inr (.inl h)
      · exact .inr (.inr ⟨List.mem_cons_of_mem _ h1, h2, h3⟩)
    | some t =>
      rw [q] at e
      dsimp only at e
      by_cases z : j = i
      · subst z
        rw [List.getElem?_set_self (by
          have := (List.getElem?_eq_some_iff.mp e).1
          rwa [List.length_set] at this)] at e
        cases e
        exact .inr (.inl ⟨t, q, rfl⟩)
      · rw [List.getElem?_set_ne z] at e
        rcases back_at e with ⟨h1, h2⟩ | h | ⟨h1, h2, h3⟩
        · exact .inl ⟨by simp only [List.mem_cons, not_or]; exact ⟨Ne.symm z, h1⟩, h2⟩
        · exact .inr (.inl h)
        · exact .inr (.inr ⟨List.mem_cons_of_mem _ h1, h2, h3⟩)
theorem back_len {old : Sl} : ∀ is : List Nat, (backSl is old sl).length = sl.length
  | [] => rfl
  | j :: is => by
    simp only [backSl]
    split
    · rw [List.length_set]; exact back_len is
    · exact back_len is
/-- the heap at the entry, with the new list -/
theorem upd_comm2 {a : Addr} {o o' : HO} : upd (upd H a o) a o' = upd H a o' := by
  funext b
  unfold upd
  split <;> rfl
/-- into the block: the slots of its own names are forgotten, the new list stands at the entry -/
theorem SR.block (S : SR G H0 F0 sl σ H F) {own : List Nat} {Dl : Addr} (hD : H Dl = none) : SR G (upd H0 Dl (.lst [])) F0 (wipeSl own sl) (L2.wipe σ own) (upd H Dl (.lst [])) F := by
  have hF : F Dl = none := by
    cases q : F Dl with
    | none => rfl
    | some o => rw [S.sub _ _ q] at hD; cases hD
  refine ⟨⟨fun a o e => ?_, S.grow.fsub, fun a o e => ?_, fun a e n => ?_⟩, by rw [wipeSl_len, wipe_length]; exact S.len, fun i s e => ?_, fun i j a si sj nij ei ej mi mj ai aj => ?_, Tabs_alloc S.tabs hD, S.nt⟩
  · by_cases z : a = Dl
    · subst z; rw [upd_same] at e ⊢; exact .inl e
    · rw [upd_ne z] at e ⊢; exact S.grow.ext a o e
  · by_cases z : a = Dl
    · subst z; rw [hF] at e; cases e
    · rw [upd_ne z]; exact S.sub _ _ e
  · by_cases z : a = Dl
    · subst z; exact absurd hF n
    · rw [upd_ne z]; exact S.grow.new a e n
  · by_cases z : i ∈ own
    · rw [wipe_at z e]; trivial
    · rw [wipe_ne z] at e
      rw [wipe_out z]
      have R := S.rel i s e
      have ne : ∀ {a : Addr}, H a ≠ none → a ≠ Dl := fun h q => h (by rw [q]; exact hD)
      cases s with
      | no => trivial
      | val d => exact R
      | own d =>
        obtain ⟨a, e1, f, z1, w⟩ := R
        obtain ⟨u, q, _⟩ := w.there
        have n := ne (a := a) (by rw [q]; exact fun z => nomatch z)
        exact ⟨a, e1, f, by rw [upd_ne n]; exact z1, w.move (upd_ne n) (Same.refl F)⟩
      | lck d =>
        obtain ⟨a, e1, f, z1, w⟩ := R
        obtain ⟨u, q, _⟩ := w.there
        have n := ne (a := a) (by rw [q]; exact fun z => nomatch z)
        exact ⟨a, e1, f, by rw [upd_ne n]; exact z1, w.move (upd_ne n) (Same.refl F)⟩
      | thk r => exact R
      | thks rs => exact R
      | lams ids =>
        obtain ⟨a, fs, e1, hz, f, z1, q, p⟩ := R
        have n := ne (a := a) (by rw [q]; exact fun z => nomatch z)
        exact ⟨a, fs, e1, hz, f, by rw [upd_ne n]; exact z1, by rw [upd_ne n]; exact q, p⟩
  · have up : ∀ {k : Nat} {s : Slot}, (wipeSl own sl)[k]? = some s → s.mine = true → k ∉ own ∧ sl[k]? = some s := fun {k s} e m => by
      by_cases z : k ∈ own
      · rw [wipe_at z e] at m; cases m
      · rw [wipe_ne z] at e; exact ⟨z, e⟩
    obtain ⟨n1, e1⟩ := up ei mi
    obtain ⟨n2, e2⟩ := up ej mj
    rw [wipe_out n1] at ai
    rw [wipe_out n2] at aj
    exact S.sep i j a si sj nij e1 e2 mi mj ai aj
/-- the new list is appended to -/
theorem SR.blockApp {Dl : Addr} {xs ys : List V} (S : SR G (upd H0 Dl (.lst xs)) F0 sl σ H F) (n0 : F0 Dl = none) : F Dl = none ∧ H Dl = some (.lst xs) ∧ SR G (upd H0 Dl (.lst ys)) F0 sl σ (upd H Dl (.lst ys)) F := by
  have hF : F Dl = none := by
    cases q : F Dl with
    | none => rfl
    | some o =>
      rcases S.grow.new Dl n0 (by rw [q]; exact fun z => nomatch z) with this | ⟨φ, this⟩ <;> rw [upd_same] at this <;> cases this
  have hH : H Dl = some (.lst xs) := by
    rcases S.grow.ext Dl _ upd_same with z | ⟨_, _, z, _⟩
    · exact z
    · cases z
  refine ⟨hF, hH, ⟨fun a o e => ?_, S.grow.fsub, fun a o e => ?_, fun a e n => ?_⟩, S.len, fun i s e => ?_, S.sep, ?_, S.nt⟩
  · by_cases z : a = Dl
    · subst z; rw [upd_same] at e ⊢; exact .inl e
    · rw [upd_ne z] at e ⊢; exact S.grow.ext a o (by rw [upd_ne z]; exact e)
  · by_cases z : a = Dl
    · subst z; rw [hF] at e; cases e
    · rw [upd_ne z]; exact S.sub _ _ e
  · by_cases z : a = Dl
    · subst z; exact absurd hF n
    · have := S.grow.new a e n
      rw [upd_ne z] at this ⊢; exact this
  · have R := S.rel i s e
    have ne : ∀ {a : Addr}, upd H0 Dl (.lst xs) a = none → a ≠ Dl := fun h q => by rw [q, upd_same] at h; cases h
    cases s with
    | no => trivial
    | val d => exact R
    | own d =>
      obtain ⟨a, e1, f, z1, w⟩ := R
      have n := ne z1
      rw [upd_ne n] at z1
      exact ⟨a, e1, f, by rw [upd_ne n]; exact z1, w.move (upd_ne n) (Same.refl F)⟩
    | lck d =>
      obtain ⟨a, e1, f, z1, w⟩ := R
      have n := ne z1
      rw [upd_ne n] at z1
      exact ⟨a, e1, f, by rw [upd_ne n]; exact z1, w.move (upd_ne n) (Same.refl F)⟩
    | thk r => exact R
    | thks rs => exact R
    | lams ids =>
      obtain ⟨a, fs, e1, hz, f, z1, q, p⟩ := R
      have n := ne z1
      rw [upd_ne n] at z1
      exact ⟨a, fs, e1, hz, f, by rw [upd_ne n]; exact z1, by rw [upd_ne n]; exact q, p⟩
  · intro p hp
    obtain ⟨ps, e, t, k⟩ := S.tabs p hp
    refine ⟨ps, ?_, t, fun pos cv h => ?_⟩
    · rw [upd_ne (fun z => by rw [z, hH] at e; cases e)]
      exact e
    · obtain ⟨c, e1, e2⟩ := k pos cv h
      refine ⟨c, e1, ?_⟩
      rw [upd_ne (fun z => by rw [z, hH] at e2; cases e2)]
      exact e2
/-- out of the block -/
theorem SR.unblock {Dl : Addr} {xs : List V} {acc : List D} {own : List Nat} {Fs Hs : Hp} (S1 : SR G H0 F0 sl1 σ Hs Fs) (S : SR G (upd H0 Dl (.lst xs)) F0 sl (L2.wipe σ own) H F) (hD : Hs Dl = none) (hz : acc.length ≤ sizeLine) (r : Reps G.K F acc xs) (sF : Same Fs F) :
    SR G H0 F0 (backSl own sl1 sl) σ H F ∧ RvOk G H0 H F (backSl own sl1 sl) σ (.new (.lst acc)) (.ref Dl) := by
  have n0 : H0 Dl = none := S1.grow.isN hD
  have f0 : F0 Dl = none := by
    cases q : F0 Dl with
    | none => rfl
    | some o => rw [S1.sub _ _ (S1.grow.fsub _ _ q)] at hD; cases hD
  obtain ⟨hF, hH, _⟩ := S.blockApp (ys := xs) f0
  have ne : ∀ {a : Addr}, upd H0 Dl (.lst xs) a = none → a ≠ Dl := fun h q => by rw [q, upd_same] at h; cases h
  have lens : sl.length = σ.length := by rw [S.len, wipe_length]
  have up : ∀ {k : Nat} {s : Slot}, (backSl own sl1 sl)[k]? = some s → s.mine = true → sl[k]? = some s ∧ (k ∉ own ∨ sl1[k]? = none) := fun {k s} e m => by
    rcases back_at e with ⟨h1, h2⟩ | ⟨t, h1, h2⟩ | ⟨h1, h2, h3⟩
    · exact ⟨h2, .inl h1⟩
    · subst h2
      split at m
      · cases m
      · rename_i h; exact absurd m h
    · exact ⟨h3, .inr h2⟩
  have out : ∀ {k : Nat} {s : Slot}, sl[k]? = some s → k ∉ own ∨ sl1[k]? = none → (L2.wipe σ own)[k]? = σ[k]? := fun {k s} e h => by
    rcases h with h | h
    · exact wipe_out h
    · have h1 : sl1.length ≤ k := List.getElem?_eq_none_iff.mp h
      have h2 := (List.getElem?_eq_some_iff.mp e).1
      rw [lens] at h2
      rw [S1.len] at h1
      omega
  refine ⟨⟨⟨fun a o e => ?_, S.grow.fsub, S.sub, fun a e n => ?_⟩, by rw [back_len]; exact lens, fun i s e => ?_, fun i j a si sj nij ei ej mi mj ai aj => ?_, S.tabs, S.nt⟩, Dl, rfl, hF, n0, ⟨hz, xs, hH, r⟩, fun j t ej m eb => ?_⟩
  · exact S.grow.ext a o (by rw [upd_ne (ne_of_none e n0)]; exact e)
  · by_cases z : a = Dl
    · rw [z]; exact .inl n0
    · have := S.grow.new a e n
      rw [upd_ne z] at this; exact this
  · have go : sl[i]? = some s → (L2.wipe σ own)[i]? = σ[i]? → SlotOk G H0 H F s (σ[i]?) := fun e h => by
      have R := S.rel i s e
      rw [h] at R
      cases s with
      | no => trivial
      | val d => exact R
      | own d =>
        obtain ⟨a, e1, f, z1, w⟩ := R
        rw [upd_ne (ne z1)] at z1
        exact ⟨a, e1, f, z1, w⟩
      | lck d =>
        obtain ⟨a, e1, f, z1, w⟩ := R
        rw [upd_ne (ne z1)] at z1
        exact ⟨a, e1, f, z1, w⟩
      | thk r => exact R
      | thks rs => exact R
      | lams ids =>
        obtain ⟨a, fs, e1, hz, f, z1, q, p⟩ := R
        rw [upd_ne (ne z1)] at z1
        exact ⟨a, fs, e1, hz, f, z1, q, p⟩
    rcases back_at e with ⟨h1, h2⟩ | ⟨t, h1, h2⟩ | ⟨h1, h2, h3⟩
    · exact go h2 (out h2 (.inl h1))
    · subst h2
      cases m : t.mine with
      | true => rw [if_pos rfl]; trivial
      | false =>
        rw [if_neg Bool.false_ne_true]
        have R := S1.rel i t h1
        cases t with
        | no => trivial
        | val d => obtain ⟨v, e, r⟩ := R; exact ⟨v, e, Rep.mono sF _ _ r⟩
        | thk r => obtain ⟨f, e, t⟩ := R; exact ⟨f, e, G.tp _ _ _ _ sF t⟩
        | thks rs => obtain ⟨a, fs, e, z, q, p⟩ := R; exact ⟨a, fs, e, z, sF _ _ q, Paired.imp (fun _ _ t => G.tp _ _ _ _ sF t) p⟩
        | own d => cases m
        | lck d => cases m
        | lams ids => cases m
    · exact go h3 (out h3 (.inr h2))
  · obtain ⟨e1, h1⟩ := up ei mi
    obtain ⟨e2, h2⟩ := up ej mj
    exact S.sep i j a si sj nij e1 e2 mi mj (by rw [out e1 h1]; exact ai) (by rw [out e2 h2]; exact aj)
  · obtain ⟨e1, h1⟩ := up ej m
    obtain ⟨b, u, e2, _, z2, _⟩ := (S.rel j t e1).mine m
    rw [out e1 h1, eb] at e2
    cases e2
    exact ne z2 rfl
end
end DL
end
section
set_option linter.all false
set_option maxRecDepth 100000
set_option maxHeartbeats 4000000
set_option autoImplicit false
namespace DL
open PySem L2 PySem.Spec PyProof.Rows
section
variable {X : Cx} {G : Gx} {W : WX} {H0 F0 H F H1 F1 : Hp} {sl sl1 : Sl} {σ : L2.St}
/-! ### comprehensions, read -/
theorem SR.wipeAll {is : List Nat} (S : SR G H0 F0 sl σ H F) : SR G H0 F0 (wipeSl is sl) (L2.wipe σ is) H F := by
  refine ⟨S.grow, by rw [wipeSl_len, wipe_length]; exact S.len, fun i s e => ?_, fun i j a si sj nij ei ej mi mj ai aj => ?_, S.tabs, S.nt⟩
  · by_cases z : i ∈ is
    · rw [wipe_at z e]; trivial
    · rw [wipe_ne z] at e
      rw [wipe_out z]
      exact S.rel i s e
  · have up : ∀ {k : Nat} {s : Slot}, (wipeSl is sl)[k]? = some s → s.mine = true → k ∉ is ∧ sl[k]? = some s := fun {k s} e m => by
      by_cases z : k ∈ is
      · rw [wipe_at z e] at m; cases m
      · rw [wipe_ne z] at e; exact ⟨z, e⟩
    obtain ⟨n1, e1⟩ := up ei mi
    obtain ⟨n2, e2⟩ := up ej mj
    rw [wipe_out n1] at ai
    rw [wipe_out n2] at aj
    exact S.sep i j a si sj nij e1 e2 mi mj ai aj
/-- a target that changes own's slots alone -/
def TGo (G : Gx) (own : List Nat) (g : MG) : TG := fun v σ H Q => ∃ H0 F0 F sl d sl1, SR G H0 F0 sl σ H F ∧ Rep G.K F d v ∧ g d sl = some sl1 ∧ ∀ σ', SR G H0 F0 sl1 σ' H F → L2.wipe σ' own = L2.wipe σ own → Q σ' H
abbrev DGo (X : Cx) (G : Gx) (own : List Nat) (tg : Expr) (g : MG) : Prop := PG X tg (TGo G own g)
theorem wipe_get (is : List Nat) (σ : L2.St) (k : Nat) (h : k ∈ is) : (L2.wipe σ is)[k]? = (if k < σ.length then some none else none) := by
  cases c : (L2.wipe σ is)[k]? with
  | none =>
    have := List.getElem?_eq_none_iff.mp c
    rw [wipe_length] at this
    rw [if_neg (by omega)]
  | some o =>
    cases o with
    | none =>
      have := (List.getElem?_eq_some_iff.mp c).1
      rw [wipe_length] at this
      rw [if_pos this]
    | some v => exact absurd h (L2.wipe_some c).2
theorem wipe_same {is : List Nat} {σ σ' : L2.St} (hl : σ.length = σ'.length) (h : ∀ k, k ∉ is → σ[k]? = σ'[k]?) : L2.wipe σ is = L2.wipe σ' is := by
  refine List.ext_getElem? fun k => ?_
  by_cases z : k ∈ is
  · rw [wipe_get _ _ _ z, wipe_get _ _ _ z, hl]
  · rw [wipe_out z, wipe_out z]; exact h k z
theorem wipe_wipe (is : List Nat) (σ : L2.St) : L2.wipe (L2.wipe σ is) is = L2.wipe σ is := wipe_same (wipe_length _ _) fun k z => wipe_out z
theorem wipe_set {is : List Nat} {σ : L2.St} {i : Nat} {o : Option V} (h : i ∈ is) : L2.wipe (σ.set i o) is = L2.wipe σ is := wipe_same (by rw [List.length_set]) fun k z => by
  rw [List.getElem?_set_ne (fun q => z (by rw [← q]; exact h))]
theorem dgo_name {i : Nat} {x : Str} {pos : Pos} {own : List Nat} (hN : X.N.Nodup) (hi : X.N[i]? = some x) (hx : Loc X.env.scope x) (ho : i ∈ own := by decide) (hf : X.fn x = true ∨ X.env.scope.names.lookup x = some .local := by first | exact .inl rfl | exact .inr rfl | assumption) : DGo X G own (.Name x pos) (gSet i) :=
  (pg_name hN hi hx hf).mono fun v σ H Q ⟨H0, F0, F, sl, d, sl1, S, r, e, k⟩ => by
    cases e
    exact k _ (S.put (s := .val d) ⟨v, rfl, r⟩ rfl) (wipe_set ho)
theorem gNames_own {own : List Nat} : ∀ {is : List Nat} {vs : List V} {σ : L2.St} {Q : L2.St → Hp → Prop}, (∀ i ∈ is, i ∈ own) → gNames is vs σ H Q → gNames is vs σ H fun σ' H' => L2.wipe σ' own = L2.wipe σ own ∧ Q σ' H'
  | [], vs, σ, Q, _, h => ⟨h.1, rfl, h.2⟩
  | i :: is, vs, σ, Q, ho, h => by
    obtain ⟨v, ws, rfl, h⟩ := h
    refine ⟨v, ws, rfl, ?_⟩
    have z := gNames_own (own := own) (fun j hj => ho j (List.mem_cons_of_mem _ hj)) (show gNames is ws (σ.set i (some v)) H Q from h)
    have go : ∀ {is : List Nat} {vs : List V} {σ : L2.St} {Q Q' : L2.St → Hp → Prop}, (∀ σ' H', Q σ' H' → Q' σ' H') → gNames is vs σ H Q → gNames is vs σ H Q' := by
      intro is
      induction is with
      | nil => intro vs σ Q Q' i h; exact ⟨h.1, i _ _ h.2⟩
      | cons j is ih => intro vs σ Q Q' i h; obtain ⟨v, ws, rfl, h⟩ := h; exact ⟨v, ws, rfl, ih i h⟩
    exact go (fun σ' H' ⟨a, b⟩ => ⟨a.trans (wipe_set (ho i List.mem_cons_self)), b⟩) z
theorem dgo_tup {es : List Expr} {is own : List Nat} {k : Nat} {pos : Pos} (hK : X.K = G.K) (hc : X.calm = true) (h : TgNames X es is) (ho : ∀ i ∈ is, i ∈ own := by decide) (hn : (assignEach es X.env).length = is.length := by rfl) (hst : (assignEach es X.env).findIdx? (·.1) = none := by rfl) : DGo X G own (.Tuple es k pos) (gTups is) :=
  (pg_tup hc (names_pgs h) hn hst).mono fun v σ H Q ⟨H0, F0, F, sl, d, sl1, S, r, e, k⟩ => by
    unfold gTups at e
    split at e
    · obtain ⟨hz, a, vs, rfl, ea, r⟩ := r
      refine ⟨a, vs, rfl, by rw [hK]; exact SqT.of (S.sub _ _ ea), by rw [r.length, gSets_len e], ?_⟩
      have z := gNames_own ho (gNames_ok (Q := fun σ' H' => SR G H0 F0 sl1 σ' H' F ∧ H' = H) S r e fun σ' S' => ⟨S', rfl⟩)
      have go : ∀ {is : List Nat} {vs : List V} {σ : L2.St} {Q Q' : L2.St → Hp → Prop}, (∀ σ' H', Q σ' H' → Q' σ' H') → gNames is vs σ H Q → gNames is vs σ H Q' := by
        intro is
        induction is with
        | nil => intro vs σ Q Q' i h; exact ⟨h.1, i _ _ h.2⟩
        | cons j is ih => intro vs σ Q Q' i h; obtain ⟨v, ws, rfl, h⟩ := h; exact ⟨v, ws, rfl, ih i h⟩
      exact go (fun σ' H' ⟨a, b, c⟩ => by subst c; exact k σ' b a) z
    · cases e
theorem lcLoop_ok {own : List Nat} {g : MG} {t : MT} {e : ME} {J : It} {items : List D} {Hs Fs : Hp} {sls : Sl} {Q : VK} (S0 : SR G H0 F0 sls σ Hs Fs) (w : WalkOk G J items Fs)
    (q : EPost G W H0 F0 Fs σ Q (match lcLoop own g t e items [] (wipeSl own sls) with
      | .ok r sl2 => .ok r (backSl own sls sl2)
      | _ => .bad)) : ∀ Dl, Hs Dl = none → ∃ Wm : Nat → Nat → Hp → Prop, (∃ m, Wm 0 m (upd Hs Dl (.lst []))) ∧ ∀ i m H, Wm i m H →
      (J.stop i H ∧ Q (.ref Dl) H) ∨ (J.go i H ∧ ∃ Nx : Hp → Prop, (∀ H', Nx H' → ∃ m', m' < m ∧ Wm (i + 1) m' H') ∧ ∀ x H', J.yld i H x H' → TGo G own g x (L2.wipe σ own) H' fun σ2 H2 => L2.wipe σ2 own = L2.wipe σ own ∧ (TTd G W0 t) σ2 H2 fun b H3 =>
        if b = true then (TEd G W0 e) σ2 H3 fun y H4 => ∃ acc, H4 Dl = some (.lst acc) ∧ acc.length < sizeLine ∧ Nx (upd H4 Dl (.lst (acc ++ [y]))) else Nx H3) := by
  intro Dl hDl
  obtain ⟨Gd, Y, w, wg, wy⟩ := w
  have f0 : F0 Dl = none := by
    cases q : F0 Dl with
    | none => rfl
    | some o => rw [S0.sub _ _ (S0.grow.fsub _ _ q)] at hDl; cases hDl
  refine lc_it w (fun i H' => ∃ F' sl' acc vs, SR G (upd H0 Dl (.lst vs)) F0 sl' (L2.wipe σ own) H' F' ∧ Same Fs F' ∧ acc.length ≤ sizeLine ∧ Reps G.K F' acc vs ∧ EPost G W H0 F0 F' σ Q (match lcLoop own g t e (items.drop i) acc sl' with
      | .ok r sl2 => .ok r (backSl own sls sl2)
      | _ => .bad)) ⟨Fs, _, [], [], S0.block hDl, Same.refl Fs, Nat.zero_le _, rfl, q⟩ (fun i H' hi ⟨F', sl', acc, vs, S', s', _⟩ => wg F' H' s' S'.sub) (fun i x H' H2 hi ⟨F', sl', acc, vs, S', s', hz, ra, q'⟩ y => ?_) fun H' ⟨F', sl', acc, vs, S', s', hz, ra, q'⟩ => ?_
  · obtain ⟨d, F2, e0, gr, rx⟩ := wy i F' H' x H2 hi s' S'.sub y
    have S2 := S'.to gr.1 (gr.2 S'.tabs)
    have q2 := EPost.on q' gr.1.fsub
    have ra2 := Reps.mono gr.1.fsub _ _ ra
    obtain ⟨e1, e2⟩ : ∃ h : i < items.length, items[i] = d := List.getElem?_eq_some_iff.mp e0
    rw [List.drop_eq_getElem_cons e1, e2] at q2
    simp only [lcLoop] at q2
    cases e3 : g d sl' with
    | none => rw [e3] at q2; exact q2.elim
    | some sl2 =>
      rw [e3] at q2
      dsimp only at q2
      refine ⟨_, F0, F2, sl', d, sl2, S2, rx, e3, fun σ3 S3 w3 => ?_⟩
      rw [wipe_wipe] at w3
      refine ⟨w3, _, F0, F2, sl2, S3, ?_⟩
      cases e4 : t sl2 with
      | exc c sl3 => rw [e4] at q2; exact q2.elim
      | bad => rw [e4] at q2; exact q2.elim
      | ok b sl3 =>
        rw [e4] at q2
        cases b with
        | false =>
          intro H4 F4 S4 s4
          rw [if_neg Bool.false_ne_true]
          dsimp only at q2
          refine ⟨F4, wipeSl own sl3, acc, vs, by rw [← w3]; exact S4.wipeAll, (s'.trans gr.1.fsub).trans s4, hz, Reps.mono s4 _ _ ra2, EPost.on q2 s4⟩
        | true =>
          dsimp only at q2
          intro H4 F4 S4 s4
          rw [if_pos rfl]
          refine ⟨_, F0, F4, sl3, S4, ?_⟩
          cases e5 : e sl3 with
          | exc c sl5 => rw [e5] at q2; exact q2.elim
          | bad => rw [e5] at q2; exact q2.elim
          | ok r sl5 =>
            rw [e5] at q2
            dsimp only at q2
            intro v H5 F5 S5 s5 R5
            cases e6 : frz r sl5 with
            | none => rw [e6] at q2; exact q2.elim
            | some p =>
              obtain ⟨dd, sl6⟩ := p
              rw [e6] at q2
              dsimp only at q2
              obtain ⟨F6, S6, s6, R6⟩ := frz_ok S5 R5 e6
              obtain ⟨hF, hH, S7⟩ := S6.blockApp (ys := vs ++ [v]) f0
              by_cases hlt : acc.length < sizeL
              · rw [if_pos hlt] at q2
                have s46 : Same F2 F6 := (s4.trans s5).trans s6
                have ra6 := Reps.mono s46 _ _ ra2
                rw [sizeL_eq] at hlt
                refine ⟨vs, hH, by rw [ra.length]; exact hlt, F6, wipeSl own sl6, acc ++ [dd], vs ++ [v], by rw [← w3]; exact S7.wipeAll, (s'.trans gr.1.fsub).trans s46, by rw [List.length_append]; exact hlt, ra6.append ⟨v, [], rfl, R6, rfl⟩, EPost.on q2 s46⟩
              · rw [if_neg hlt] at q2; exact q2.elim
  · rw [List.drop_length] at q'
    simp only [lcLoop] at q'
    obtain ⟨S9, R9⟩ := SR.unblock S0 S' hDl hz ra s'
    exact q' _ H' F' S9 (Same.refl _) R9
theorem te_lc {own : List Nat} {src : MI} {g : MG} {t : MT} {e : ME} {Q : VK} (q : TEd G W (mLc own src g t e) σ H Q) : tLc (TId G W src) (TGo G own g) (TTd G W0 t) (TEd G W0 e) own σ H Q := by
  obtain ⟨H0, F0, F, sl, S, q⟩ := q
  refine ⟨H0, F0, F, sl, S, ?_⟩
  unfold mLc at q
  cases e1 : src sl with
  | exc c sl1 => rw [e1] at q; exact q
  | bad => rw [e1] at q; exact q
  | ok items sl1 =>
    rw [e1] at q
    intro J H' F' S' s' w
    exact lcLoop_ok S' w (EPost.on q s')
/-- a clause's tests, none or one -/
abbrev DTs (X : Cx) (G : Gx) (W : WX) (ifs : List Expr) (t : MT) : Prop := PTs X ifs (TTd G W t)
theorem _root_.L2.PTs.mono {X : Cx} {e : List Expr} {t t' : TT} (h : PTs X e t) (i : ∀ σ H Q, t' σ H Q → t σ H Q) : PTs X e t' := ⟨fun pins s σ H Q I q => h.run pins s σ H Q I (i σ H Q q)⟩
theorem dts_nil : DTs X G W [] mtYes := pts_nil.mono fun σ H Q ⟨H0, F0, F, sl, S, q⟩ => q H F S (Same.refl F)
theorem dts_one {c : Expr} {t : MT} (h : DT X G W c t) : DTs X G W [c] t := pts_one h
theorem de_lc {elt tg iter : Expr} {ifs : List Expr} {scope : Scope} {own : List (Str × Nat)} {pos : Pos} {src : MI} {g : MG} {t : MT} {e : ME} (hc : X.calm = true) (hN : X.N.Nodup) (hi : DI X G W tg iter src) (ok : BlkOk X.N X.env.scope scope own)
    (hg : ∀ (s : Shared) (H : Hp) (C : Addr) (cl : List (Str × Addr)) (fp : List Addr), DGo (X.blk s H scope (compEnvC scope cl C X.env) fp) G (own.map (·.2)) tg g)
    (ht : ∀ (s : Shared) (H : Hp) (C : Addr) (cl : List (Str × Addr)) (fp : List Addr), DTs (X.blk s H scope (compEnvC scope cl C X.env) fp) G W0 ifs t)
    (he : ∀ (s : Shared) (H : Hp) (C : Addr) (cl : List (Str × Addr)) (fp : List Addr), DE (X.blk s H scope (compEnvC scope cl C X.env) fp) G W0 elt e) (hs : ∀ x, foldedSetIterable iter X.env x = pure x := by intro _; rfl) :
    DE X G W (.ListComp elt [⟨tg, iter, ifs, 0⟩] scope pos) (mLc (own.map (·.2)) src g t e) :=
  (pe_lc hc hN hi ok hg ht he hs).mono fun σ H Q q => te_lc q
theorem ds_setLc {i : Nat} {y : Str} {py : Pos} {elt tg iter : Expr} {ifs : List Expr} {scope : Scope} {own : List (Str × Nat)} {pos spos : Pos} {src : MI} {g : MG} {t : MT} {e : ME} (hc : X.calm = true) (hN : X.N.Nodup) (hy : X.N[i]? = some y) (hyl : X.env.scope.names.lookup y = some .local)
    (hk : X.env.scope.kind = .function) (hl : (py.line == pos.line) = true) (hsc : (scope.names.any fun (n, k) => n == y && (k == .local || k == .cell)) = false) (hi : DI X G W tg iter src) (ok : BlkOk X.N X.env.scope scope own)
    (hg : ∀ (s : Shared) (H : Hp) (C : Addr) (cl : List (Str × Addr)) (fp : List Addr), DGo (X.blk s H scope (compEnvC scope cl C X.env) fp) G (own.map (·.2)) tg g)
    (ht : ∀ (s : Shared) (H : Hp) (C : Addr) (cl : List (Str × Addr)) (fp : List Addr), DTs (X.blk s H scope (compEnvC scope cl C X.env) fp) G W0 ifs t)
    (he : ∀ (s : Shared) (H : Hp) (C : Addr) (cl : List (Str × Addr)) (fp : List Addr), DE (X.blk s H scope (compEnvC scope cl C X.env) fp) G W0 elt e) (hs : ∀ x, foldedSetIterable iter X.env x = pure x := by intro _; rfl) :
    DS X G W (.Assign [.Name y py] (.ListComp elt [⟨tg, iter, ifs, 0⟩] scope pos) spos) (msSet i (mLc (own.map (·.2)) src g t e)) :=
  (ps_setLc hc hN hy hyl (sw_true hk hyl hl hsc) hi ok hg ht he hs).mono fun D σ H q => by
    have z := ts_set q
    exact te_lc z
end
end DL
end
section
set_option linter.all false
set_option maxRecDepth 100000
set_option maxHeartbeats 4000000
set_option autoImplicit false
namespace DL
open PySem L2 PySem.Spec PyProof.Rows
section
variable {X : Cx} {G : Gx} {W : WX} {H0 F0 H F H1 F1 : Hp} {sl sl1 : Sl} {σ : L2.St}
/-! ### what a def promises -/
def ArgOk (G : Gx) (F : Hp) : Arg → V → Prop
  | .d d, v => Rep G.K F d v
  | .t r, v => ∃ f, v = .ref f ∧ G.TP F f r
  | .ts rs, v => ∃ a fs, v = .ref a ∧ rs.length ≤ sizeLine ∧ F a = some (.lst (fs.map V.ref)) ∧ Paired (G.TP F) fs rs
def RPost (G : Gx) (F H : Hp) (Q : VK) (E : XK) : Res → Prop
  | .ret d fr => ∀ v H' F', GrowT G F H F' H' → LamX.Tabs G.T H' → ResOk G.K H H' F' (if fr = true then .new d else .dat d) v → Q v H'
  | .exc c => ∀ H' F', GrowT G F H F' H' → LamX.Tabs G.T H' → E (.ref (He.ga G.K c)) none H'
  | .bad => False
def spOf (G : Gx) (n : Nat) (g : Fn) : Sp := fun vs H Q E => ∃ F as, as.length = n ∧ Same F H ∧ LamX.Tabs G.T H ∧ (∀ p ∈ G.T, F p.1 = none) ∧ Paired (ArgOk G F) as vs ∧ RPost G F H Q E (g as)
theorem paired_len {α β : Type} {P : α → β → Prop} : ∀ {l : List α} {m : List β}, Paired P l m → m.length = l.length
  | _, _, .nil => rfl
  | _, _, .cons _ t => by rw [List.length_cons, List.length_cons, paired_len t]
theorem paired_get {α β : Type} {P : α → β → Prop} : ∀ {l : List α} {m : List β} {i : Nat} {a : α}, Paired P l m → l[i]? = some a → ∃ b, m[i]? = some b ∧ P a b
  | _, _, 0, a, .cons h _, e => by simp at e; subst e; exact ⟨_, rfl, h⟩
  | _, _, i + 1, a, .cons _ t, e => by
    obtain ⟨b, e1, h⟩ := paired_get t (by simpa using e)
    exact ⟨b, by simpa using e1, h⟩
  | _, _, _, _, .nil, e => by simp at e
theorem sp_len {n : Nat} {g : Fn} {vs : List V} {H : Hp} {Q : VK} {E : XK} (h : spOf G n g vs H Q E) : vs.length = n := by
  obtain ⟨F, as, e, _, _, _, p, _⟩ := h
  rw [paired_len p, e]
def startSl (n : Nat) (as : List Arg) : Sl := as.map Slot.ofArg ++ List.replicate (n - as.length) .no
theorem sr_start {N : List Str} {as : List Arg} {vs : List V} (s : Same F H) (t : LamX.Tabs G.T H) (nt : ∀ p ∈ G.T, F p.1 = none) (p : Paired (ArgOk G F) as vs) (hl : as.length ≤ N.length) : SR G H F (startSl N.length as) (L2.start N vs) H F := by
  have el := paired_len p
  have nomine : ∀ (i : Nat) (s : Slot), (startSl N.length as)[i]? = some s → s.mine = false := fun i s e => by
    unfold startSl at e
    by_cases hi : i < as.length
    · rw [List.getElem?_append_left (by simpa using hi), List.getElem?_map] at e
      obtain ⟨a, e1, e2⟩ := Option.map_eq_some_iff.mp e
      subst e2
      cases a <;> rfl
    · rw [List.getElem?_append_right (by simpa using hi), List.getElem?_replicate] at e
      split at e <;> cases e
      rfl
  refine ⟨Grow.refl s, ?_, fun i s e => ?_, fun i j a si sj nij ei ej mi mj => (by rw [nomine i si ei] at mi; cases mi), t, nt⟩
  · unfold startSl L2.start
    simp only [List.length_append, List.length_map, List.length_replicate]
    omega
  · unfold startSl at e
    by_cases hi : i < as.length
    · rw [List.getElem?_append_left (by simpa using hi), List.getElem?_map] at e
      obtain ⟨a, e1, e2⟩ := Option.map_eq_some_iff.mp e
      subst e2
      obtain ⟨v, e3, h⟩ := paired_get p e1
      have e4 : (L2.start N vs)[i]? = some (some v) := by
        unfold L2.start
        rw [List.getElem?_append_left (by simp; omega), List.getElem?_map, e3]
        rfl
      rw [e4]
      cases a with
      | d d => exact ⟨v, rfl, h⟩
      | t r => obtain ⟨f, rfl, h⟩ := h; exact ⟨f, rfl, h⟩
      | ts rs => obtain ⟨a, fs, rfl, h⟩ := h; exact ⟨a, fs, rfl, h⟩
    · rw [List.getElem?_append_right (by simpa using hi), List.getElem?_replicate] at e
      split at e <;> cases e
      trivial
theorem takes_cx {P : Program} {w : World} {K : PySem.W.Frag} {mg : Str → Option Value} {base : Heap} {N : List Str} {qual : Str} {scope : Scope} {f : Addr} {cd : Value} {A : Around} {outer : List Env} {s : Shared} {H : Hp} {E : XK} :
    L2N.Takes (cxOf (L2N.CX P w) P w K mg base N qual scope f cd A outer s H E) (fun cls d _ H => E cls d H) := L2N.takes_of rfl rfl rfl rfl
theorem body_pass {P : Program} {w : World} {K : PySem.W.Frag} {mg : Str → Option Value} {base : Heap} {N : List Str} {qual : Str} {scope : Scope} {f : Addr} {cd : Value} {A : Around} {outer : List Env} {s : Shared} {H : Hp} {E : XK} :
    PassesOwn (model P w) (A.deeper (envOfC qual scope s.heap.objs.size f cd)) (envOfC qual scope s.heap.objs.size f cd) (cxOf (L2N.CX P w) P w K mg base N qual scope f cd A outer s H E).xe := PassesOwn.leaving
/-! ### calls -/
/-- a def known by its name -/
structure CallF (P : Program) (w : World) (mg : Str → Option Value) (base : Heap) (G : Gx) (k : Nat) (x : Str) (n : Nat) (g : Fn) : Prop where
  ex : ∃ f fd ps, FnOk P w G.K mg base (L2N.CX P w) k f fd ps (spOf G n g) ∧ mg x = some (.ref f) ∧ PySem.W.keepIn G.K (.ref f) = true ∧ Binds G.K fd ps []
theorem CallF.mono {P : Program} {w : World} {mg : Str → Option Value} {base : Heap} {j k : Nat} {x : Str} {n : Nat} {g : Fn} (h : CallF P w mg base G j x n g) (i : j ≤ k) : CallF P w mg base G k x n g :=
  let ⟨f, fd, ps, a, b, c, d⟩ := h.ex; ⟨f, fd, ps, a.mono i, b, c, d⟩
theorem toArg_ok (S : SR G H0 F0 sl σ H F) {r : Rv} {v : V} {a : Arg} {sl2 : Sl} (n : ∀ d, r ≠ .new d) (h : RvOk G H0 H F sl σ r v) (e : toArg r sl = some (a, sl2)) :
    ∃ F', SR G H0 F0 sl2 σ H F' ∧ Same F F' ∧ ArgOk G F' a v := by
  cases r with
  | dat d => cases e; exact ⟨F, S, Same.refl F, h⟩
  | new d => exact absurd rfl (n d)
  | slot i =>
    have h : σ[i]? = some (some v) := h
    simp only [toArg] at e
    split at e
    · rename_i d' q
      cases e
      obtain ⟨u, e1, r1⟩ := S.rel i _ q
      rw [h] at e1
      cases e1
      exact ⟨F, S, Same.refl F, r1⟩
    · rename_i d' q
      cases e
      obtain ⟨a, F', e1, s', R', S'⟩ := S.freeze q
      rw [h] at e1
      cases e1
      exact ⟨F', S', s', R'⟩
    · rename_i r q
      cases e
      obtain ⟨f, e1, r1⟩ := S.rel i _ q
      rw [h] at e1
      cases e1
      exact ⟨F, S, Same.refl F, f, rfl, r1⟩
    · rename_i r q
      cases e
      obtain ⟨a, fs, e1, r1⟩ := S.rel i _ q
      rw [h] at e1
      cases e1
      exact ⟨F, S, Same.refl F, a, fs, rfl, r1⟩
    · cases e
theorem ArgOk.mono {a : Arg} {v : V} (s : Same F F1) (h : ArgOk G F a v) : ArgOk G F1 a v := by
  cases a with
  | d d => exact Rep.mono s _ _ h
  | t r => obtain ⟨f, e, h⟩ := h; exact ⟨f, e, G.tp _ _ _ _ s h⟩
  | ts rs => obtain ⟨a, fs, e, z, q, p⟩ := h; exact ⟨a, fs, e, z, s _ _ q, Paired.imp (fun _ _ t => G.tp _ _ _ _ s t) p⟩
theorem toArgs_ok : ∀ {rs : List Rv} {vs : List V} {as : List Arg} {sl sl2 : Sl} {F : Hp}, SR G H0 F0 sl σ H F → (∀ r ∈ rs, ∀ d, r ≠ .new d) → Paired (RvOk G H0 H F sl σ) rs vs → toArgs rs sl = some (as, sl2) →
    ∃ F', SR G H0 F0 sl2 σ H F' ∧ Same F F' ∧ Paired (ArgOk G F') as vs
  | [], _, as, sl, sl2, F, S, _, .nil, e => by
    cases e
    exact ⟨F, S, Same.refl F, .nil⟩
  | r :: rs, v :: vs, as, sl, sl2, F, S, nn, .cons h t, e => by
    obtain ⟨⟨a, sl1⟩, e1, e2⟩ := Option.bind_eq_some_iff.mp (show (toArg r sl).bind _ = some (as, sl2) from e)
    obtain ⟨⟨as', sl2'⟩, e3, e4⟩ := Option.map_eq_some_iff.mp e2
    cases e4
    obtain ⟨F1, S1, s1, R1⟩ := toArg_ok S (nn _ List.mem_cons_self) h e1
    have t1 : Paired (RvOk G H0 H F1 sl1 σ) rs vs := by
      have go : ∀ {rs : List Rv} {vs : List V}, (∀ r ∈ rs, ∀ d, r ≠ .new d) → Paired (RvOk G H0 H F sl σ) rs vs → Paired (RvOk G H0 H F1 sl1 σ) rs vs := by
        intro rs vs nn p
        induction p with
        | nil => exact .nil
        | cons h _ ih => exact .cons (h.on' (nn _ List.mem_cons_self) s1) (ih fun r hr => nn r (List.mem_cons_of_mem _ hr))
      exact go (fun r hr => nn r (List.mem_cons_of_mem _ hr)) t
    obtain ⟨F2, S2, s2, R2⟩ := toArgs_ok S1 (fun r hr => nn r (List.mem_cons_of_mem _ hr)) t1 e3
    exact ⟨F2, S2, s1.trans s2, .cons (R1.mono s2) R2⟩
theorem RvOk.fixed {r : Rv} {v : V} (n : ∀ d, r ≠ .new d) (h : RvOk G H0 H F sl σ r v) (s : Same F F1) : RvOk G H0 H1 F1 sl1 σ r v := h.on' n s
theorem toArgs_len : ∀ {rs : List Rv} {as : List Arg} {sl sl2 : Sl}, toArgs rs sl = some (as, sl2) → as.length = rs.length
  | [], _, _, _, e => by cases e; rfl
  | r :: rs, as, sl, sl2, e => by
    obtain ⟨⟨a, sl1⟩, e1, e2⟩ := Option.bind_eq_some_iff.mp (show (toArg r sl).bind _ = some (as, sl2) from e)
    obtain ⟨⟨as', sl2'⟩, e3, e4⟩ := Option.map_eq_some_iff.mp e2
    cases e4
    rw [List.length_cons, List.length_cons, toArgs_len e3]
/-- as many arguments as told -/
def LenIs (n : Nat) (mm : MA) : Prop := ∀ sl rs sl1, mm sl = .ok rs sl1 → rs.length = n
theorem len_nil : LenIs 0 maNil := fun sl rs sl1 e => by cases e; rfl
theorem len_cons {n : Nat} {m : ME} {mm : MA} (h : LenIs n mm) : LenIs (n + 1) (maCons m mm) := fun sl rs sl1 e => by
  unfold maCons at e
  cases q : m sl with
  | exc c sl2 => rw [q] at e; cases e
  | bad => rw [q] at e; cases e
  | ok r' sl2 =>
    rw [q] at e
    dsimp only at e
    cases q2 : mm sl2 with
    | exc c sl3 => rw [q2] at e; cases e
    | bad => rw [q2] at e; cases e
    | ok rs' sl3 =>
      rw [q2] at e
      cases e
      rw [List.length_cons, h _ _ _ q2]
theorem te_call {n : Nat} {g : Fn} {mm : MA} {Q : VK} (hl : LenIs n mm) (hf : Fixed mm) (q : TEd G W (mCall g mm) σ H Q) : TAd G W mm σ H fun vs H1 => spOf G n g vs H1 Q (WE W σ) := by
  obtain ⟨H0, F0, F, sl, S, q⟩ := q
  refine ⟨H0, F0, F, sl, S, ?_⟩
  unfold mCall at q
  cases e : mm sl with
  | exc c sl1 => rw [e] at q; exact q
  | bad => rw [e] at q; exact q
  | ok rs sl1 =>
    rw [e] at q
    dsimp only at q
    intro vs H1 F1 S1 s1 R1
    cases e1 : toArgs rs sl1 with
    | none => rw [e1] at q; exact q.elim
    | some p =>
      obtain ⟨as, sl2⟩ := p
      rw [e1] at q
      dsimp only at q
      obtain ⟨F2, S2, s2, R2⟩ := toArgs_ok S1 (hf _ _ _ e) R1 e1
      refine ⟨F2, as, by rw [toArgs_len e1, hl _ _ _ e], S2.sub, S2.tabs, S2.nt, R2, ?_⟩
      have q2 := EPost.on q (s1.trans s2)
      cases e2 : g as with
      | bad => rw [e2] at q2; exact q2.elim
      | exc c => rw [e2] at q2; exact fun H' F' gr tb => q2 H' F' (S2.to gr.1 tb) gr.1.fsub
      | ret d fr =>
        rw [e2] at q2
        intro v H' F' gr tb R
        cases fr with
        | true => exact EPost.op S2 q2 gr R
        | false => exact EPost.op S2 q2 gr R
theorem de_call {k n : Nat} {x : Str} {g : Fn} {e : Expr} {es : List Expr} {mm : MA} {p pos : Pos} (hK : X.K = G.K) (h : CallF X.prog X.w X.mg X.base G k x n g) (hr : Room k X.A) (tk : L2N.Takes X W) (hg : Gl X x) (ha : DA X G W (e :: es) mm) (hl : LenIs n mm) (hf : Fixed mm)
    (hdb : (x == ("__debug__" : Str)) = false := by decide) (he : starEach (e :: es) X.env = (false, eval e X.env) :: starEach es X.env := by rfl) (hpl : (backTo pos (starEach es X.env)).any (·.1) = false := by rfl) : DE X G W (.Call (.Name x p) (e :: es) [] pos) (mCall g mm) := by
  obtain ⟨f, fd, ps, F, gm, kp, b⟩ := h.ex
  rw [← hK] at F kp b
  exact (pe_callS (E := WE W) F hr hg gm kp b (L2N.passAt tk) ha hdb he hpl).mono fun σ H Q q => te_call hl hf q
/-- in a block, and around a law, nothing is let out -/
theorem takesN0 : L2N.Takes X (fun _ _ _ _ => False) := fun _ _ ⟨_, _, _, _, _, _, _, _, _, _, _, _, _, _, _, _, w⟩ => w.elim
/-! ### raise -/
structure ExcF (K : PySem.W.Frag) (mg : Str → Option Value) (x : Str) : Prop where
  mg : mg x = some (.ref (He.ga K x))
  exc : PySem.W.excIn K (He.ga K x) He.veBase "ValueError.__new__" = true
  kp : PySem.W.keepIn K (.ref (He.ga K x)) = true
  sub : PySem.W.subIn K (.ref (He.ga K x)) (.type "BaseException") = some true
  ty : PySem.W.typeIn K (.ref (He.ga K x)) = some (.type "type")
theorem ds_raise {x m : Str} {j : Nat} {p p2 pos pos' : Pos} (hK : X.K = G.K) (hc : X.calm = true) (tk : L2N.Takes X W) (h : ExcF G.K X.mg x) (hg : Gl X x) (hdb : (x == ("__debug__" : Str)) = false := by decide) :
    DS X G W (.Raise (some (.Call (.Name x p) [.Constant (.str m) j p2] [] pos)) none pos') (msRaise x) := by
  rw [← hK] at h
  refine (L2N.ps_raise hc tk (L2N.pmk_own PySem.F.excBase_ValueError h.exc h.mg h.kp (raises_own h.sub h.ty) hg hdb)).mono fun D σ H ⟨H0, F0, F, sl, S, q⟩ => ?_
  rw [hK]
  exact q σ H F S (Same.refl F)
/-! ### globals -/
theorem de_glob {x : Str} {d : D} {v : V} {u : Value} {pos : Pos} (hg : Gl X x) (hm : X.mg x = some u) (r : RelV v u) (hr : ∀ F, Rep G.K F d v) (hdb : (x == ("__debug__" : Str)) = false := by decide) : DE X G W (.Name x pos) (mC d) :=
  de_con (show PE X (.Name x pos) (tC v) from ⟨fun _ _ _ H _ I h => ld_glob I hg hm ⟨v, H, I, r, h⟩ hdb⟩) hr
theorem de_gint {x : Str} {i : Int} {pos : Pos} (hg : Gl X x) (hm : ∃ t, X.mg x = some (.int i t)) (hdb : (x == ("__debug__" : Str)) = false := by decide) : DE X G W (.Name x pos) (mC (.int i)) :=
  let ⟨t, h⟩ := hm; de_glob (v := .int i) hg h ⟨t, rfl⟩ (fun _ => rfl) hdb
theorem de_gstr {x y : Str} {pos : Pos} (hg : Gl X x) (hm : ∃ t, X.mg x = some (.str y t)) (hdb : (x == ("__debug__" : Str)) = false := by decide) : DE X G W (.Name x pos) (mC (.str y)) :=
  let ⟨t, h⟩ := hm; de_glob (v := .str y) hg h ⟨t, rfl⟩ (fun _ => rfl) hdb
theorem de_int {i : Int} {j : Nat} {pos : Pos} : DE X G W (.Constant (.int i) j pos) (mC (.int i)) := de_con (v := .int i) pe_int fun _ => rfl
theorem de_str {i : Str} {j : Nat} {pos : Pos} : DE X G W (.Constant (.str i) j pos) (mC (.str i)) := de_con (v := .str i) pe_str fun _ => rfl
theorem de_bl {i : Bool} {j : Nat} {pos : Pos} : DE X G W (.Constant (.bool i) j pos) (mC (.bl i)) := de_con (v := .bl i) pe_bl fun _ => rfl
theorem de_non {j : Nat} {pos : Pos} : DE X G W (.Constant .none j pos) (mC .non) := de_con (v := .non) pe_non fun _ => rfl
theorem dv (i : Nat) {x : Str} {pos : Pos} (hN : X.N[i]? = some x := by rfl) (hv : Vis X.env.scope x := by first | exact Or.inl rfl | exact Or.inr (Or.inl rfl) | exact Or.inr (Or.inr rfl)) (hd : (x == ("__debug__" : Str)) = false := by decide)
    (hcd : (x == ("__classdict__" : Str)) = false := by decide) : DE X G W (.Name x pos) (mVar i) := de_var (pe_var hN hv hd hcd)
end
end DL
end
section
set_option linter.all false
set_option maxRecDepth 100000
set_option maxHeartbeats 4000000
set_option autoImplicit false
namespace DL
open PySem L2 PySem.Spec PyProof.Rows
section
variable {X : Cx} {G : Gx} {W : WX} {H0 F0 H F H1 F1 : Hp} {sl sl1 : Sl} {σ : L2.St} {D : Ends}
/-! ### own objects change -/
theorem SR.mut (S : SR G H0 F0 sl σ H F) {i : Nat} {d0 d1 : DL.D} {a : Addr} {o : HO} (e : sl[i]? = some (.own d0)) (ea : σ[i]? = some (some (.ref a))) (w : OwnAt G.K (upd H a o) F a d1) : SR G H0 F0 (sl.set i (.own d1)) σ (upd H a o) F := by
  obtain ⟨b, eb, f, z, w0⟩ := S.rel i _ e
  rw [ea] at eb
  cases eb
  obtain ⟨u, q, nt, _⟩ := w0.there
  have hi := (List.getElem?_eq_some_iff.mp e).1
  refine ⟨⟨fun b o e1 => ?_, S.grow.fsub, fun b o e1 => ?_, S.grow.new⟩, by rw [List.length_set]; exact S.len, fun j s ej => ?_, fun j k b sj sk njk ej ek mj mk bj bk => ?_, fun p hp => ?_, S.nt⟩
  · rw [upd_ne (ne_of_none e1 z)]; exact S.grow.ext b o e1
  · rw [upd_ne (ne_of_none e1 f)]; exact S.grow.sub b o e1
  · by_cases y : i = j
    · subst y
      rw [List.getElem?_set_self hi] at ej
      cases ej
      exact ⟨a, ea, f, z, w⟩
    · rw [List.getElem?_set_ne y] at ej
      refine (S.rel j s ej).move (Same.refl F) fun m b eb fb _ => ⟨?_, fb⟩
      exact upd_ne fun y2 => S.sep i j a _ s y e ej rfl m ea (by rw [eb, y2])
  · have go : ∀ {x : Nat} {t : Slot}, (sl.set i (.own d1))[x]? = some t → t.mine = true → ∃ t', sl[x]? = some t' ∧ t'.mine = true := fun {x t} e1 mt => by
      by_cases y : i = x
      · subst y; exact ⟨_, e, rfl⟩
      · rw [List.getElem?_set_ne y] at e1; exact ⟨t, e1, mt⟩
    obtain ⟨t1, e1, m1⟩ := go ej mj
    obtain ⟨t2, e2, m2⟩ := go ek mk
    exact S.sep j k b t1 t2 njk e1 e2 m1 m2 bj bk
  · obtain ⟨ps, e, t, k⟩ := S.tabs p hp
    have ne : ∀ {b : Addr} {o' : HO}, H b = some o' → ((∃ ps, o' = .tbl ps) ∨ ∃ c q, o' = LamX.CodeO c q) → b ≠ a := fun {b o'} e h y => by
      rw [y, q] at e
      cases e
      rcases h with ⟨ps, rfl⟩ | ⟨c, q, rfl⟩
      · exact nt ps rfl
      · exact (show False from by cases d0 <;> first | exact w0.elim | (obtain ⟨_, _, y, _⟩ := w0; rw [q] at y; cases y) | (obtain ⟨_, y, _⟩ := w0; rw [q] at y; cases y))
    refine ⟨ps, ?_, t, fun pos cv h => ?_⟩
    · rw [upd_ne (ne e (.inl ⟨_, rfl⟩))]; exact e
    · obtain ⟨c, e1, e2⟩ := k pos cv h
      exact ⟨c, e1, by rw [upd_ne (ne e2 (.inr ⟨_, _, rfl⟩))]; exact e2⟩

theorem EPost.imp {Q Q' : VK} {o : EOut} (i : ∀ v H, Q v H → Q' v H) (h : EPost G W H0 F0 F σ Q o) : EPost G W H0 F0 F σ Q' o := by
  cases o with
  | ok r sl => exact fun v H' F' S s R => i _ _ (h v H' F' S s R)
  | exc c sl => exact h
  | bad => exact h
theorem PE_weak {m : ME} {Q Q' : VK} (h : TEd G W m σ H Q) (i : ∀ v H, Q v H → Q' v H) : TEd G W m σ H Q' := let ⟨H0, F0, F, sl, S, q⟩ := h; ⟨H0, F0, F, sl, S, q.imp i⟩
/-! ### methods and stores that change -/
def MutOk (G : Gx) (t : DL.D → Bool) (f : DL.D → List DL.D → Option DL.D) (r : V → List V → Hp → (Hp → Prop) → Prop) : Prop :=
  ∀ (H F : Hp) (a : Addr) (d d' : DL.D) (ds : List DL.D) (vs : List V) (R : Hp → Prop), Same F H → OwnAt G.K H F a d → F a = none → Reps G.K F ds vs → f d ds = some d' → (∀ o, OwnAt G.K (upd H a o) F a d' → R (upd H a o)) → r (.ref a) vs H R
theorem ts_mut {t : DL.D → Bool} {i : Nat} {f : DL.D → List DL.D → Option DL.D} {as : MA} {r : V → List V → Hp → (Hp → Prop) → Prop} (ho : MutOk G t f r) (hf : Fixed as) (q : TSd G W (msMut t i f as) D σ H) :
    ∃ a, σ[i]? = some (some (.ref a)) ∧ (∃ d0 F, t d0 = true ∧ Same F H ∧ OwnAt G.K H F a d0) ∧ TAd G W as σ H fun vs H1 => r (.ref a) vs H1 fun H2 => D.nx σ H2 := by
  obtain ⟨H0, F0, F, sl, S, q⟩ := q
  unfold msMut at q
  split at q
  · rename_i d0 e0
    obtain ⟨a, ea, fa, za, wa⟩ := S.rel i _ e0
    split at q
    · rename_i ht
      refine ⟨a, ea, ⟨d0, F, ht, S.sub, wa⟩, H0, F0, F, sl, S, ?_⟩
      cases e : as sl with
      | exc c sl1 => rw [e] at q; exact fun H' F' S' s' => q σ H' F' S' s'
      | bad => rw [e] at q; exact q
      | ok rs sl1 =>
        rw [e] at q
        dsimp only at q
        intro vs H1 F1 S1 s1 R1
        cases e1 : frzAll rs sl1 with
        | none => rw [e1] at q; exact q.elim
        | some p =>
          obtain ⟨ds, sl2⟩ := p
          rw [e1] at q
          dsimp only at q
          obtain ⟨F2, S2, s2, R2⟩ := frzAll_ok S1 (hf _ _ _ e) R1 e1
          split at q
          · rename_i d e2
            obtain ⟨b, eb, fb, zb, wb⟩ := S2.rel i _ e2
            rw [ea] at eb
            cases eb
            cases e3 : f d ds with
            | none => rw [e3] at q; exact q.elim
            | some d' =>
              rw [e3] at q
              exact ho H1 F2 a d d' ds vs _ S2.sub wb fb R2 e3 fun o w => q σ _ F2 (S2.mut e2 ea w) (s1.trans s2)
          · exact q.elim
    · exact q.elim
  · exact q.elim
theorem mut_append : MutOk G isLst mmAppend (fun x vs H R => rAppend x vs H fun _ H2 => R H2) := by
  intro H F a d d' ds vs R sF w fa r e k
  unfold mmAppend at e
  split at e
  · split at e
    · rename_i hlt
      cases e
      obtain ⟨hz, xs, ea, rx⟩ := w
      simp only [Reps] at r
      obtain ⟨v, ws, rfl, r1, rfl⟩ := r
      rw [sizeL_eq] at hlt
      exact ⟨a, xs, v, rfl, rfl, ea, by rw [rx.length]; exact hlt, k _ ⟨by rw [List.length_append]; exact hlt, _, upd_same, rx.append ⟨v, [], rfl, r1, rfl⟩⟩⟩
    · cases e
  · cases e
theorem mut_extend : MutOk G isLst mmExtend (fun x vs H R => rExtend x vs H fun _ H2 => R H2) := by
  intro H F a d d' ds vs R sF w fa r e k
  unfold mmExtend at e
  split at e
  · split at e
    · rename_i hlt
      cases e
      obtain ⟨hz, xs, ea, rx⟩ := w
      simp only [Reps] at r
      obtain ⟨v, ws, rfl, ⟨hz2, b, ys, rfl, eb, ry⟩, rfl⟩ := r
      rw [sizeL_eq] at hlt
      exact ⟨a, b, xs, ys, rfl, rfl, ea, sF _ _ eb, by rw [rx.length, ry.length]; exact hlt, k _ ⟨by rw [List.length_append]; exact hlt, _, upd_same, rx.append ry⟩⟩
    · cases e
  · cases e
/-- x.m(e, ..) as a statement -/
theorem ds_mutM {t : DL.D → Bool} {T id : String} {name : Str} {i : Nat} {f : DL.D → List DL.D → Option DL.D} {o e : Expr} {es : List Expr} {mm : MA} {r : V → List V → Hp → VK → Prop} {apos cpos pos : Pos} (hK : X.K = G.K) (ho : MutOk G t f (fun x vs H R => r x vs H fun _ H2 => R H2))
    (ht : ∀ (H F : Hp) (a : Addr) (d : DL.D), Same F H → t d = true → OwnAt G.K H F a d → tyV G.K T (.ref a) H) (pa : PlainAttrs T) (slot : PySem.Slot T name id) (hty : typeOf (.builtin id) = pure (.type "method_descriptor")) (hm : MtR X id r) (h1 : PE X o (tVar i)) (h2 : DA X G W (e :: es) mm) (hf : Fixed mm)
    (hbase : attributeBase o name X.env (eval o X.env) = eval o X.env := by rfl)
    (hfew : ((backTo cpos (starEach (e :: es) X.env)).all (fun x => !x.1) && (backToKw cpos (keywordEach [] X.env)).all (fun x => x.1.isSome)
      && decide ((e :: es).length + ([] : List Keyword).length + (if ([] : List Keyword).isEmpty then 0 else 1) < 30)) = true := by rfl)
    (hline : (apos.endLine == cpos.line) = true := by rfl) (hs : starEach (e :: es) X.env = (false, eval e X.env) :: starEach es X.env := by rfl) (hplain : (backTo cpos (starEach es X.env)).any (·.1) = false := by rfl)
    (hsw : swapsWith (.Call (.Attribute o name apos) (e :: es) [] cpos) none pos.line X.env = pure false := by rfl) :
    DS X G W (.Expr (.Call (.Attribute o name apos) (e :: es) [] cpos) pos) (msMut t i f mm) :=
  (ps_expr (pe_bm pa slot hty hm h1 h2 hbase hfew hline hs hplain) hsw).mono fun D σ H q => by
    obtain ⟨a, ea, ⟨d0, F, e1, sF, w⟩, q⟩ := ts_mut ho hf q
    exact ⟨_, ea, by rw [hK]; exact ht H F a d0 sF e1 w, q⟩
theorem ty_list {H F : Hp} {a : Addr} {d : DL.D} (sF : Same F H) (t : isLst d = true) (w : OwnAt G.K H F a d) : tyV G.K "list" (.ref a) H := by
  cases d with
  | lst ds => obtain ⟨_, vs, ea, _⟩ := w; exact .inl ⟨rfl, vs, SqL.of ea⟩
  | _ => cases t
theorem ds_append {i : Nat} {o e : Expr} {m : ME} {apos cpos pos : Pos} (hK : X.K = G.K) (h1 : PE X o (tVar i)) (h2 : DE X G W e m)
    (hbase : attributeBase o "append" X.env (eval o X.env) = eval o X.env := by rfl)
    (hfew : ((backTo cpos (starEach [e] X.env)).all (fun x => !x.1) && (backToKw cpos (keywordEach [] X.env)).all (fun x => x.1.isSome)
      && decide (([e] : List Expr).length + ([] : List Keyword).length + (if ([] : List Keyword).isEmpty then 0 else 1) < 30)) = true := by rfl)
    (hline : (apos.endLine == cpos.line) = true := by rfl) (hs : starEach [e] X.env = (false, eval e X.env) :: starEach [] X.env := by rfl) (hplain : (backTo cpos (starEach [] X.env)).any (·.1) = false := by rfl)
    (hsw : swapsWith (.Call (.Attribute o "append" apos) [e] [] cpos) none pos.line X.env = pure false := by rfl) :
    DS X G W (.Expr (.Call (.Attribute o "append" apos) [e] [] cpos) pos) (msMut isLst i mmAppend (maCons m maNil)) :=
  ds_mutM hK mut_append (fun H F a d sF t w => ty_list sF t w) PySem.F.plainAttrs_list PySem.F.slot_list_append PySem.F.type_list_append mt_append h1 (da_cons h2 da_nil hs) (fixed_cons fixed_nil) hbase hfew hline hs hplain hsw
theorem ds_extend {i : Nat} {o e : Expr} {m : ME} {apos cpos pos : Pos} (hK : X.K = G.K) (h1 : PE X o (tVar i)) (h2 : DE X G W e m)
    (hbase : attributeBase o "extend" X.env (eval o X.env) = eval o X.env := by rfl)
    (hfew : ((backTo cpos (starEach [e] X.env)).all (fun x => !x.1) && (backToKw cpos (keywordEach [] X.env)).all (fun x => x.1.isSome)
      && decide (([e] : List Expr).length + ([] : List Keyword).length + (if ([] : List Keyword).isEmpty then 0 else 1) < 30)) = true := by rfl)
    (hline : (apos.endLine == cpos.line) = true := by rfl) (hs : starEach [e] X.env = (false, eval e X.env) :: starEach [] X.env := by rfl) (hplain : (backTo cpos (starEach [] X.env)).any (·.1) = false := by rfl)
    (hsw : swapsWith (.Call (.Attribute o "extend" apos) [e] [] cpos) none pos.line X.env = pure false := by rfl) :
    DS X G W (.Expr (.Call (.Attribute o "extend" apos) [e] [] cpos) pos) (msMut isLst i mmExtend (maCons m maNil)) :=
  ds_mutM hK mut_extend (fun H F a d sF t w => ty_list sF t w) PySem.F.plainAttrs_list PySem.F.slot_list_extend PySem.F.type_list_extend mt_extend h1 (da_cons h2 da_nil hs) (fixed_cons fixed_nil) hbase hfew hline hs hplain hsw
/-! ### dicts -/
theorem RepK.length {K : PySem.W.Frag} {F : Hp} : ∀ {kvs : List (Ky × DL.D)} {ws : List (Key × V)}, RepK K F kvs ws → ws.length = kvs.length
  | [], ws, r => by simp only [RepK] at r; subst r; rfl
  | (k, d) :: kvs, ws, r => by
    simp only [RepK] at r
    obtain ⟨v, ws', rfl, _, r2⟩ := r
    simp [RepK.length r2]
theorem RepT.length {K : PySem.W.Frag} {F : Hp} : ∀ {kvs : List (List Ky × DL.D)} {ws : List (List Key × V)}, RepT K F kvs ws → ws.length = kvs.length
  | [], ws, r => by simp only [RepT] at r; subst r; rfl
  | (k, d) :: kvs, ws, r => by
    simp only [RepT] at r
    obtain ⟨v, ws', rfl, _, r2⟩ := r
    simp [RepT.length r2]
theorem RepK.put {K : PySem.W.Frag} {F : Hp} {k : Ky} {d : DL.D} {v : V} (rv : Rep K F d v) {kvs : List (Ky × DL.D)} {ws : List (Key × V)} (r : RepK K F kvs ws) : RepK K F (dSet kvs k d) (putK ws k v) := by
  have any : ∀ {kvs : List (Ky × DL.D)} {ws : List (Key × V)}, RepK K F kvs ws → (kvs.any fun p => decide (p.1 = k)) = ws.any fun p => decide (p.1 = k) := by
    intro kvs
    induction kvs with
    | nil => intro ws r; simp only [RepK] at r; subst r; rfl
    | cons p kvs ih => intro ws r; simp only [RepK] at r; obtain ⟨v, ws', rfl, _, r2⟩ := r; simp only [List.any_cons, ih r2]
  have mp : ∀ {kvs : List (Ky × DL.D)} {ws : List (Key × V)}, RepK K F kvs ws → RepK K F (kvs.map fun p => if p.1 = k then (p.1, d) else p) (ws.map fun p => if p.1 = k then (p.1, v) else p) := by
    intro kvs
    induction kvs with
    | nil => intro ws r; simp only [RepK] at r; subst r; rfl
    | cons p kvs ih =>
      intro ws r
      simp only [RepK] at r
      obtain ⟨v', ws', rfl, r1, r2⟩ := r
      by_cases e : p.1 = k
      · simp only [List.map_cons, if_pos e]; exact ⟨v, _, rfl, rv, ih r2⟩
      · simp only [List.map_cons, if_neg e]; exact ⟨v', _, rfl, r1, ih r2⟩
  have ap : ∀ {kvs : List (Ky × DL.D)} {ws : List (Key × V)}, RepK K F kvs ws → RepK K F (kvs ++ [(k, d)]) (ws ++ [(k, v)]) := by
    intro kvs
    induction kvs with
    | nil => intro ws r; simp only [RepK] at r; subst r; exact ⟨v, [], rfl, rv, rfl⟩
    | cons p kvs ih => intro ws r; simp only [RepK] at r; obtain ⟨v', ws', rfl, r1, r2⟩ := r; exact ⟨v', _, rfl, r1, ih r2⟩
  unfold dSet putK
  rw [any r]
  split
  · exact mp r
  · exact ap r
theorem RepT.put {K : PySem.W.Frag} {F : Hp} {k : List Ky} {d : DL.D} {v : V} (rv : Rep K F d v) {kvs : List (List Ky × DL.D)} {ws : List (List Key × V)} (r : RepT K F kvs ws) : RepT K F (dSet kvs k d) (putK ws k v) := by
  have any : ∀ {kvs : List (List Ky × DL.D)} {ws : List (List Key × V)}, RepT K F kvs ws → (kvs.any fun p => decide (p.1 = k)) = ws.any fun p => decide (p.1 = k) := by
    intro kvs
    induction kvs with
    | nil => intro ws r; simp only [RepT] at r; subst r; rfl
    | cons p kvs ih => intro ws r; simp only [RepT] at r; obtain ⟨v, ws', rfl, _, r2⟩ := r; simp only [List.any_cons, ih r2]
  have mp : ∀ {kvs : List (List Ky × DL.D)} {ws : List (List Key × V)}, RepT K F kvs ws → RepT K F (kvs.map fun p => if p.1 = k then (p.1, d) else p) (ws.map fun p => if p.1 = k then (p.1, v) else p) := by
    intro kvs
    induction kvs with
    | nil => intro ws r; simp only [RepT] at r; subst r; rfl
    | cons p kvs ih =>
      intro ws r
      simp only [RepT] at r
      obtain ⟨v', ws', rfl, r1, r2⟩ := r
      by_cases e : p.1 = k
      · simp only [List.map_cons, if_pos e]; exact ⟨v, _, rfl, rv, ih r2⟩
      · simp only [List.map_cons, if_neg e]; exact ⟨v', _, rfl, r1, ih r2⟩
  have ap : ∀ {kvs : List (List Ky × DL.D)} {ws : List (List Key × V)}, RepT K F kvs ws → RepT K F (kvs ++ [(k, d)]) (ws ++ [(k, v)]) := by
    intro kvs
    induction kvs with
    | nil => intro ws r; simp only [RepT] at r; subst r; exact ⟨v, [], rfl, rv, rfl⟩
    | cons p kvs ih => intro ws r; simp only [RepT] at r; obtain ⟨v', ws', rfl, r1, r2⟩ := r; exact ⟨v', _, rfl, r1, ih r2⟩
  unfold dSet putK
  rw [any r]
  split
  · exact mp r
  · exact ap r
theorem Rep.key {K : PySem.W.Frag} {F : Hp} {d : DL.D} {v : V} {k : Ky} (p : Rep K F d v) (e : d.key? = some k) : v = kV k := Peek.key (H := F) (.inl p) e
theorem mut_put : MutOk G isAny mmPut (fun x vs H R => ∃ v y, vs = [v, y] ∧ ∃ a H4, x = .ref a ∧ DPut H a y v H4 ∧ R H4) := by
  intro H F a d d' ds vs R sF w fa r e k
  unfold mmPut at e
  split at e
  · split at e
    · rename_i hlt
      obtain ⟨q, e1, e2⟩ := Option.map_eq_some_iff.mp e
      subst e2
      obtain ⟨ws, ea, rx⟩ := w
      simp only [Reps] at r
      obtain ⟨v, vs', rfl, r1, y, vs'', rfl, r2, rfl⟩ := r
      have ey := r2.key e1
      subst ey
      rw [sizeL_eq] at hlt
      exact ⟨v, _, rfl, a, _, rfl, DPut.k ea (by rw [rx.length]; exact hlt), k _ ⟨_, upd_same, rx.put r1⟩⟩
    · cases e
  · split at e
    · rename_i hlt
      obtain ⟨q, e1, e2⟩ := Option.map_eq_some_iff.mp e
      subst e2
      obtain ⟨ws, ea, rx⟩ := w
      simp only [Reps] at r
      obtain ⟨v, vs', rfl, r1, y, vs'', rfl, ⟨hz, b, xs, rfl, eb, r2⟩, rfl⟩ := r
      have ey := r2.keys e1
      subst ey
      rw [sizeL_eq] at hlt
      exact ⟨v, _, rfl, a, _, rfl, DPut.t ea (sF _ _ eb) (by rw [rx.length]; exact hlt), k _ ⟨_, upd_same, rx.put r1⟩⟩
    · cases e
  · cases e
/-- x[k] = v, x a dict of the def's own -/
theorem ds_put {i : Nat} {o ix value : Expr} {mk mv : ME} {pos pos' : Pos} (hu : X.A.units + 1 < cLine) (h1 : PE X o (tVar i)) (h2 : DE X G W ix mk) (h3 : DE X G W value mv) (hs : swapsWith value (some (.Subscript o ix pos')) pos.line X.env = pure false := by rfl) :
    DS X G W (.Assign [.Subscript o ix pos'] value pos) (msMut isAny i mmPut (maCons mv (maCons mk maNil))) :=
  (ps_dput hu h1 h2 h3 hs).mono fun D σ H q => by
    obtain ⟨a, ea, _, q⟩ := ts_mut mut_put (fixed_cons (fixed_cons fixed_nil)) q
    have q1 := ta_cons q
    refine PE_weak q1 fun v H1 q2 => ⟨_, ea, ?_⟩
    have q3 := ta_cons q2
    refine PE_weak q3 fun y H2 q4 => ?_
    obtain ⟨H0, F0, F, sl, S, q5⟩ := q4
    obtain ⟨v', y', e, a', H4, e2, dp, n⟩ := q5 [] H2 F S (Same.refl F) .nil
    cases e
    exact ⟨a', H4, e2, dp, n⟩
end
end DL
end
section
set_option linter.all false
set_option maxRecDepth 100000
set_option maxHeartbeats 4000000
set_option autoImplicit false
namespace DL
open PySem L2 PySem.Spec PyProof.Rows
section
variable {X : Cx} {G : Gx} {W : WX} {H0 F0 H F H1 F1 : Hp} {sl sl1 : Sl} {σ : L2.St}
/-! ### dict displays -/
theorem de_newK {pos : Pos} : DE X G W (.Dict [] [] pos) mNewK := pe_dnewK.mono fun σ H Q ⟨H0, F0, F, sl, S, q⟩ p hp =>
  EPost.op S (r := .new (.dct [])) q (GrowT.alloc S.sub _ hp) ⟨p, rfl, notF S.sub hp, hp, _, upd_same, rfl⟩
theorem de_newT {pos : Pos} : DE X G W (.Dict [] [] pos) mNewT := pe_dnewT.mono fun σ H Q ⟨H0, F0, F, sl, S, q⟩ p hp =>
  EPost.op S (r := .new (.dctT [])) q (GrowT.alloc S.sub _ hp) ⟨p, rfl, notF S.sub hp, hp, _, upd_same, rfl⟩
/-- an object that is made stands at the entry while its parts are made -/
theorem SR.push (S : SR G H0 F0 sl σ H F) {p : Addr} {o : HO} (hp : H p = none) : SR G (upd H0 p o) F0 sl σ (upd H p o) F := by
  have hF := notF S.sub hp
  refine ⟨⟨fun a u e => ?_, S.grow.fsub, fun a u e => ?_, fun a e n => ?_⟩, S.len, fun i s e => ?_, S.sep, Tabs_alloc S.tabs hp, S.nt⟩
  · by_cases z : a = p
    · subst z; rw [upd_same] at e ⊢; exact .inl e
    · rw [upd_ne z] at e ⊢; exact S.grow.ext a u e
  · rw [upd_ne (ne_of_none e hF)]; exact S.sub _ _ e
  · by_cases z : a = p
    · subst z; exact absurd hF n
    · rw [upd_ne z]; exact S.grow.new a e n
  · have R := S.rel i s e
    have ne : ∀ {a : Addr}, H a ≠ none → a ≠ p := fun h q => h (by rw [q]; exact hp)
    cases s with
    | no => trivial
    | val d => exact R
    | own d =>
      obtain ⟨a, e1, f, z1, w⟩ := R
      obtain ⟨u, q, _⟩ := w.there
      have n := ne (a := a) (by rw [q]; exact fun z => nomatch z)
      exact ⟨a, e1, f, by rw [upd_ne n]; exact z1, w.move (upd_ne n) (Same.refl F)⟩
    | lck d =>
      obtain ⟨a, e1, f, z1, w⟩ := R
      obtain ⟨u, q, _⟩ := w.there
      have n := ne (a := a) (by rw [q]; exact fun z => nomatch z)
      exact ⟨a, e1, f, by rw [upd_ne n]; exact z1, w.move (upd_ne n) (Same.refl F)⟩
    | thk r => exact R
    | thks rs => exact R
    | lams ids =>
      obtain ⟨a, fs, e1, hz, f, z1, q, r⟩ := R
      have n := ne (a := a) (by rw [q]; exact fun z => nomatch z)
      exact ⟨a, fs, e1, hz, f, by rw [upd_ne n]; exact z1, by rw [upd_ne n]; exact q, r⟩
/-- what stands at p is as it was; it may change, and goes out of the entry -/
theorem SR.pop {p : Addr} {ws ws' : List (Key × V)} (S : SR G (upd H0 p (.dK ws)) F0 sl σ H F) (n0 : H0 p = none) (f0 : F0 p = none) :
    F p = none ∧ H p = some (.dK ws) ∧ (∀ (j : Nat) (t : Slot), sl[j]? = some t → t.mine = true → σ[j]? ≠ some (some (.ref p))) ∧ SR G H0 F0 sl σ (upd H p (.dK ws')) F := by
  have hF : F p = none := by
    cases q : F p with
    | none => rfl
    | some o =>
      rcases S.grow.new p f0 (by rw [q]; exact fun z => nomatch z) with this | ⟨φ, this⟩ <;> rw [upd_same] at this <;> cases this
  have hH : H p = some (.dK ws) := by
    rcases S.grow.ext p _ upd_same with z | ⟨_, _, z, _⟩
    · exact z
    · cases z
  have ne : ∀ {a : Addr}, upd H0 p (.dK ws) a = none → a ≠ p := fun h q => by rw [q, upd_same] at h; cases h
  refine ⟨hF, hH, fun j t e m eb => ?_, ⟨fun a u e => ?_, S.grow.fsub, fun a u e => ?_, fun a e n => ?_⟩, S.len, fun i s e => ?_, S.sep, fun q hq => ?_, S.nt⟩
  · obtain ⟨b, u, e2, _, z2, _⟩ := (S.rel j t e).mine m
    rw [eb] at e2
    cases e2
    exact ne z2 rfl
  · have z := ne_of_none e n0
    rw [upd_ne z]
    exact S.grow.ext a u (by rw [upd_ne z]; exact e)
  · rw [upd_ne (ne_of_none e hF)]; exact S.sub _ _ e
  · by_cases z : a = p
    · rw [z]; exact .inl n0
    · have := S.grow.new a e n
      rw [upd_ne z] at this; exact this
  · have R := S.rel i s e
    cases s with
    | no => trivial
    | val d => exact R
    | own d =>
      obtain ⟨a, e1, f, z1, w⟩ := R
      have n := ne z1
      rw [upd_ne n] at z1
      exact ⟨a, e1, f, z1, w.move (upd_ne n) (Same.refl F)⟩
    | lck d =>
      obtain ⟨a, e1, f, z1, w⟩ := R
      have n := ne z1
      rw [upd_ne n] at z1
      exact ⟨a, e1, f, z1, w.move (upd_ne n) (Same.refl F)⟩
    | thk r => exact R
    | thks rs => exact R
    | lams ids =>
      obtain ⟨a, fs, e1, hz, f, z1, q, r⟩ := R
      have n := ne z1
      rw [upd_ne n] at z1
      exact ⟨a, fs, e1, hz, f, z1, by rw [upd_ne n]; exact q, r⟩
  · obtain ⟨ps, e, t, k⟩ := S.tabs q hq
    refine ⟨ps, ?_, t, fun pos cv h => ?_⟩
    · rw [upd_ne (fun z => by rw [z, hH] at e; cases e)]; exact e
    · obtain ⟨c, e1, e2⟩ := k pos cv h
      exact ⟨c, e1, by rw [upd_ne (fun z => by rw [z, hH] at e2; cases e2)]; exact e2⟩
theorem XPost.push {c : Str} {p : Addr} {o : HO} (h : XPost G W H0 F0 F σ c sl) : True := trivial
/-- no exception leaves an expression's meaning -/
def Quiet (m : ME) : Prop := ∀ sl c sl1, m sl ≠ .exc c sl1
theorem quiet_var (i : Nat) : Quiet (mVar i) := fun sl c sl1 e => by
  unfold mVar at e
  split at e <;> cases e
theorem quiet_c (d : D) : Quiet (mC d) := fun sl c sl1 e => nomatch e
theorem de_disp1 {k v : Expr} {mk mv : ME} {pos : Pos} (hk : DE X G W k mk) (hv : DE X G W v mv) (qk : Quiet mk) (qv : Quiet mv) : DE X G W (.Dict [some k] [v] pos) (mDisp1 mk mv) := by
  refine (pe_disp (pps_cons hk hv pps_nil) rfl rfl (by simp) (by show 1 ≤ 15; decide)).mono fun σ H Q ⟨H0, F0, F, sl, S, q⟩ p hp => ?_
  have n0 := S.grow.isN hp
  have f0 : F0 p = none := by
    cases e : F0 p with
    | none => rfl
    | some o => have := S.sub _ _ (S.grow.fsub _ _ e); rw [hp] at this; cases this
  unfold mDisp1 at q
  refine TEd.go (S.push hp) (fun c sl1 e => absurd e (qk _ _ _)) (fun e => ?_) fun r sl1 x H1 F1 e S1 s1 R1 => ?_
  · rw [e] at q; exact q
  · rw [e] at q
    obtain ⟨F1', S1', s1', R1'⟩ := R1.fix S1
    have q : EPost G W H0 F0 F σ Q ((mv sl1).bind _) := q
    refine TEd.go S1' (fun c sl1 e => absurd e (qv _ _ _)) (fun e => ?_) fun r2 sl2 y H2 F2 e S2 s2 R2 => ?_
    · rw [e] at q; exact q
    · rw [e] at q
      obtain ⟨F2', S2', s2', R2'⟩ := R2.fix S2
      have q : EPost G W H0 F0 F σ Q (match frzAll [r.fix, r2.fix] sl2 with
        | some ([k, v], sl3) => (match k.key? with
          | some q => .ok (.new (.dct [(q, v)])) sl3
          | none => .bad)
        | _ => .bad) := q
      cases e1 : frzAll [r.fix, r2.fix] sl2 with
      | none => rw [e1] at q; exact q.elim
      | some pr =>
        obtain ⟨ds, sl3⟩ := pr
        rw [e1] at q
        obtain ⟨F3, S3, s3, R3⟩ := frzAll_ok (vs := [x, y]) S2' (fun z hz d => by
          rcases List.mem_cons.mp hz with rfl | hz
          · exact fix_new _ d
          · rcases List.mem_cons.mp hz with rfl | hz
            · exact fix_new _ d
            · cases hz) (.cons (R1'.on (s2.trans s2')) (.cons R2' .nil)) e1
        split at q
        · rename_i k v sl4 e2
          cases e2
          cases e3 : k.key? with
          | none => rw [e3] at q; exact q.elim
          | some kk =>
            rw [e3] at q
            simp only [Reps] at R3
            obtain ⟨x', ws, e4, r1, y', ws2, e5, r2, e6⟩ := R3
            subst e6
            subst e5
            cases e4
            have ek := r1.key e3
            subst ek
            obtain ⟨hF, hH, hap, S4⟩ := S3.pop (ws' := [(kk, y)]) n0 f0
            refine ⟨hH, [(kk, y)], rfl, (by show 1 ≤ 15; decide), ?_⟩
            have em : mergeK ([] : List (Key × V)) [(kk, y)] = [(kk, y)] := rfl
            rw [em]
            have sF : Same F F3 := (((s1.trans s1').trans s2).trans s2').trans s3
            exact q (.ref p) _ F3 S4 sF ⟨p, rfl, hF, n0, ⟨_, upd_same, y, [], rfl, r2, rfl⟩, hap⟩
        · exact q.elim
/-! ### dict of pairs -/
theorem pairs_ok {K : PySem.W.Frag} {H F : Hp} (sF : Same F H) : ∀ {ds : List D} {vs : List V} {kvs : List (Ky × D)}, Reps K F ds vs → pairs? ds = some kvs → ∃ (ps : List Addr) (ws : List (Key × V)), vs = ps.map V.ref ∧ Paired (fun p kv => SqT K H p [kV kv.1, kv.2]) ps ws ∧ RepK K F kvs ws
  | [], vs, kvs, r, e => by
    cases e
    simp only [Reps] at r
    exact ⟨[], [], r, .nil, rfl⟩
  | d :: ds, vs, kvs, r, e => by
    unfold pairs? at e
    split at e
    · rename_i e0; cases e0
    · rename_i k v ds' e0
      cases e0
      simp only [Reps] at r
      obtain ⟨x, ws, rfl, ⟨hz, a, xs, rfl, ea, rx⟩, r2⟩ := r
      obtain ⟨q, e1, e2⟩ := Option.bind_eq_some_iff.mp e
      obtain ⟨kvs', e3, e4⟩ := Option.map_eq_some_iff.mp e2
      subst e4
      obtain ⟨x1, xs1, rfl, rk, y1, ys1, rfl, rv, rfl⟩ := rx
      have ek := Rep.key rk e1
      subst ek
      obtain ⟨ps, ws', e5, p, rr⟩ := pairs_ok sF r2 e3
      subst e5
      exact ⟨a :: ps, (q, y1) :: ws', rfl, .cons (SqT.of (sF _ _ ea)) p, _, _, rfl, rv, rr⟩
    · cases e
theorem RepK.merge {K : PySem.W.Frag} {F : Hp} : ∀ {more : List (Ky × D)} {ms : List (Key × V)} {acc : List (Ky × D)} {as : List (Key × V)}, RepK K F acc as → RepK K F more ms → RepK K F (dMerge acc more) (mergeK as ms)
  | [], ms, acc, as, r, q => by simp only [RepK] at q; subst q; exact r
  | (k, d) :: more, ms, acc, as, r, q => by
    simp only [RepK] at q
    obtain ⟨v, ms', rfl, q1, q2⟩ := q
    show RepK K F (dMerge (dSet acc k d) more) (mergeK (putK as k v) ms')
    exact RepK.merge (RepK.put q1 r) q2
theorem k_dictP (hK : X.K = G.K) (hc : X.calm = true) : ∃ r, CallR X (.type "dict") r ∧ OpNOk G r opDictP := by
  refine ⟨_, call_dictP hc, fun H F ds vs z Q sF tb p e k => ?_⟩
  rw [hK]
  unfold opDictP at e
  split at e
  · obtain ⟨kvs, e1, e2⟩ := Option.map_eq_some_iff.mp e
    subst e2
    obtain ⟨v, rfl, pk⟩ := one_peek p
    obtain ⟨_, a, vs, rfl, ea, r⟩ := pk.lst sF
    obtain ⟨ps, ws, rfl, pp, rr⟩ := pairs_ok sF r e1
    exact ⟨a, ps, ws, rfl, SqL.of ea, pp, fun p hp => k _ _ F (GrowT.alloc sF _ hp) ⟨p, rfl, notF sF hp, hp, _, upd_same, RepK.merge (show RepK G.K F [] [] from rfl) rr⟩⟩
  · cases e
/-! ### sorted -/
theorem ints_reps {K : PySem.W.Frag} {F : Hp} : ∀ {ds : List D} {vs : List V} {ns : List Int}, Reps K F ds vs → ints? ds = some ns → vs = ns.map V.int
  | [], vs, ns, r, e => by cases e; simpa [Reps] using r
  | d :: ds, vs, ns, r, e => by
    unfold ints? at e
    split at e
    · rename_i e0; cases e0
    · rename_i b ds' e0
      cases e0
      obtain ⟨bs, e1, e2⟩ := Option.map_eq_some_iff.mp e
      subst e2
      simp only [Reps] at r
      obtain ⟨v, ws, rfl, r1, r2⟩ := r
      rw [ints_reps r2 e1]
      rw [show v = V.int b from r1]
      rfl
    · cases e
theorem strs_reps {K : PySem.W.Frag} {F : Hp} : ∀ {ds : List D} {vs : List V} {ns : List Str}, Reps K F ds vs → strs? ds = some ns → vs = ns.map V.str
  | [], vs, ns, r, e => by cases e; simpa [Reps] using r
  | d :: ds, vs, ns, r, e => by
    unfold strs? at e
    split at e
    · rename_i e0; cases e0
    · rename_i b ds' e0
      cases e0
      obtain ⟨bs, e1, e2⟩ := Option.map_eq_some_iff.mp e
      subst e2
      simp only [Reps] at r
      obtain ⟨v, ws, rfl, r1, r2⟩ := r
      rw [strs_reps r2 e1]
      rw [show v = V.str b from r1]
      rfl
    · cases e
theorem reps_ints {K : PySem.W.Frag} {F : Hp} : ∀ ns : List Int, Reps K F (ns.map D.int) (ns.map V.int)
  | [] => rfl
  | n :: ns => ⟨_, _, rfl, rfl, reps_ints ns⟩
theorem reps_strs {K : PySem.W.Frag} {F : Hp} : ∀ ns : List Str, Reps K F (ns.map D.str) (ns.map V.str)
  | [] => rfl
  | n :: ns => ⟨_, _, rfl, rfl, reps_strs ns⟩
theorem ltCps_iff : ∀ a b : List Nat, ltCps a b = decide (a < b)
  | [], [] => by simp [ltCps]
  | [], b :: bs => by simp [ltCps]
  | a :: as, [] => by simp [ltCps]
  | a :: as, b :: bs => by
    simp only [ltCps, ltCps_iff as bs, List.cons_lt_cons_iff]
    by_cases h1 : a < b
    · simp [h1]
    · by_cases h2 : a = b
      · subst h2; simp
      · simp [h1, h2]
theorem strLt_eq (x y : Str) : strLt x y = ltCps x.cps.toList y.cps.toList := by rw [ltCps_iff]; rfl
theorem strLe_iff (a b : Str) : strLe a b = true ↔ a.cps.toList ≤ b.cps.toList := by
  unfold strLe strLt
  simp [List.not_lt]
theorem strLe_total (a b : Str) : (strLe a b || strLe b a) = true := by
  rw [Bool.or_eq_true, strLe_iff, strLe_iff]
  exact List.le_total _ _
theorem strLe_trans (a b c : Str) : strLe a b = true → strLe b c = true → strLe a c = true := by
  rw [strLe_iff, strLe_iff, strLe_iff]
  exact List.le_trans
theorem str_ext {a b : Str} (h : a.cps.toList = b.cps.toList) : a = b := by
  obtain ⟨x⟩ := a
  obtain ⟨y⟩ := b
  congr 1
  exact Array.toList_inj.mp h
theorem strLe_anti (a b : Str) : strLe a b = true → strLe b a = true → a = b := by
  rw [strLe_iff, strLe_iff]
  exact fun h k => str_ext (List.le_antisymm h k)
theorem rising_iff : ∀ (xs : List Str) (p : Str), risingS p xs = true → (∀ x ∈ xs, strLe p x = true) ∧ xs.Pairwise fun a b => strLe a b = true
  | [], p, _ => ⟨by simp, .nil⟩
  | x :: r, p, h => by
    simp only [risingS, Bool.and_eq_true, Bool.not_eq_true'] at h
    obtain ⟨h1, h2⟩ := rising_iff r x h.2
    have hp : strLe p x = true := by unfold strLe; rw [strLt_eq, h.1]; rfl
    refine ⟨fun y hy => ?_, .cons h1 h2⟩
    rcases List.mem_cons.mp hy with rfl | hy
    · exact hp
    · exact strLe_trans _ _ _ hp (h1 y hy)
theorem sortedS_pw {xs : List Str} (h : sortedS xs = true) : xs.Pairwise fun a b => strLe a b = true := by
  cases xs with
  | nil => exact .nil
  | cons x r =>
    obtain ⟨h1, h2⟩ := rising_iff r x h
    exact .cons h1 h2
theorem sort_uniqS {xs ys : List Str} (h : ys.Perm xs) (s : sortedS ys = true) : ys = xs.mergeSort strLe :=
  List.Perm.eq_of_pairwise (fun a b _ _ h1 h2 => strLe_anti a b h1 h2) (sortedS_pw s) (List.pairwise_mergeSort strLe_trans strLe_total xs) (h.trans (List.mergeSort_perm xs strLe).symm)
theorem sort_uniqI {xs ys : List Int} (h : ys.Perm xs) (s : ys.Pairwise (· ≤ ·)) : ys = xs.mergeSort fun a b => decide (a ≤ b) :=
  List.Perm.eq_of_pairwise (le := fun a b => decide (a ≤ b) = true) (fun a b _ _ h1 h2 => Int.le_antisymm (of_decide_eq_true h1) (of_decide_eq_true h2)) (s.imp fun h => decide_eq_true h)
    (List.pairwise_mergeSort (le := fun (a b : Int) => decide (a ≤ b)) (fun a b c h1 h2 => decide_eq_true (Int.le_trans (of_decide_eq_true h1) (of_decide_eq_true h2))) (fun a b => by rw [Bool.or_eq_true, decide_eq_true_iff, decide_eq_true_iff]; exact Int.le_total a b) xs) (h.trans (List.mergeSort_perm xs _).symm)
theorem k_sorted (hK : X.K = G.K) : ∃ r, CallR X (.builtin "sorted") r ∧ OpNOk G r opSorted := by
  refine ⟨_, CallR.or cr_sorted cr_sortedS, fun H F ds vs z Q sF tb p e k => ?_⟩
  rw [hK]
  unfold opSorted at e
  split at e
  · rename_i es
    split at e
    · rename_i hl
      obtain ⟨v, rfl, pk⟩ := one_peek p
      obtain ⟨_, a, vs, rfl, ea, r⟩ := pk.lst sF
      split at e
      · rename_i ns e1
        cases e
        have ev := ints_reps r e1
        subst ev
        have hn : ns.length < 64 := by have := r.length; rw [List.length_map] at this; omega
        refine .inl ⟨a, ns, rfl, SqL.of ea, hn, fun ns' p h1 h2 hp => ?_⟩
        rw [sort_uniqI h1 h2]
        exact k _ _ F (GrowT.alloc sF _ hp) ⟨p, rfl, notF sF hp, hp, by rw [List.length_map, List.length_mergeSort]; exact Nat.le_of_lt (Nat.lt_of_lt_of_le hn (by rw [sizeLine_eq]; decide)), _, upd_same, reps_ints _⟩
      · obtain ⟨xs, e1, e2⟩ := Option.map_eq_some_iff.mp e
        subst e2
        have ev := strs_reps r e1
        subst ev
        have hn : xs.length < 64 := by have := r.length; rw [List.length_map] at this; omega
        refine .inr ⟨a, xs, rfl, SqL.of ea, hn, fun ns' p h1 h2 hp => ?_⟩
        rw [sort_uniqS h1 h2]
        exact k _ _ F (GrowT.alloc sF _ hp) ⟨p, rfl, notF sF hp, hp, by rw [List.length_map, List.length_mergeSort]; exact Nat.le_of_lt (Nat.lt_of_lt_of_le hn (by rw [sizeLine_eq]; decide)), _, upd_same, reps_strs _⟩
    · cases e
  · cases e
end
end DL
end
section
set_option linter.all false
set_option maxRecDepth 100000
set_option maxHeartbeats 4000000
set_option autoImplicit false
namespace DL
open PySem L2 PySem.Spec PyProof.Rows
section
variable {X : Cx} {G : Gx} {W : WX} {H0 F0 H F H1 F1 : Hp} {sl sl1 : Sl} {σ : L2.St}
/-! ### the head's facts -/
structure HF (fa : List He.Fa) (fn : List He.DefD) (G : Gx) (mg : Str → Option Value) : Prop where
  c : He.SaysD fa fn G.K
  h : ∃ h : Heap, G.K.In h ∧ h.Ns mainGlobals mg
section
variable {fa : List He.Fa} {fn : List He.DefD} {mg : Str → Option Value}
theorem HF.glo (V : HF fa fn G mg) (i : Nat) {x : Str} (e : fa[i]? = some (.glo x) := by rfl) : mg x = some (.ref (He.ga G.K x)) := let ⟨_, a, b⟩ := V.h; He.glo_ok a b (V.c.fact i e)
theorem HF.free (V : HF fa fn G mg) (i : Nat) {x : Str} (e : fa[i]? = some (.free x) := by rfl) : mg x = none := let ⟨_, a, b⟩ := V.h; He.free_ok a b (V.c.fact i e)
theorem HF.gint (V : HF fa fn G mg) (i : Nat) {x : Str} {n : Int} (e : fa[i]? = some (.int x n) := by rfl) : ∃ t, mg x = some (.int n t) := let ⟨_, a, b⟩ := V.h; He.int_ok a b (V.c.fact i e)
theorem HF.gstr (V : HF fa fn G mg) (i : Nat) {x y : Str} (e : fa[i]? = some (.str x y) := by rfl) : ∃ t, mg x = some (.str y t) := let ⟨_, a, b⟩ := V.h; He.str_ok a b (V.c.fact i e)
theorem HF.exc (V : HF fa fn G mg) (i j : Nat) {x : Str} (e : fa[i]? = some (.glo x) := by rfl) (e2 : fa[j]? = some (.exc x) := by rfl) : ExcF G.K mg x :=
  let ⟨a, b, c, d⟩ := He.exc_ok (V.c.fact j e2); ⟨V.glo i e, a, b, c, d⟩
theorem fn_dlD {P : Program} {w : World} {mg : Str → Option Value} {base : Heap} {x qual : Str} {st : Stmt} {f : Addr} {fd : FuncData} {N ps : List Str} {k : Nat} {m : MS} (Fd : FunD G.K x qual (defArgs st) (defBody st) (defScope st) [] [] f fd) (S : FnScope N ps (defScope st)) (hN : ps.length ≤ N.length)
    (body : ∀ (cdv : Value) (A : Around) (outer : List Env) (s : Shared) (H : Hp) (E : XK), Room k (A.deeper (envOfC qual (defScope st) s.heap.objs.size f cdv)) →
      DSs (cxOf (L2N.CX P w) P w G.K mg base N qual (defScope st) f cdv A outer s H E) G (fun cls d _ H => E cls d H) (defBody st) m) : FnOk P w G.K mg base (L2N.CX P w) (k + 1) f fd ps (spOf G ps.length (runFn N.length m)) := by
  refine Fd.ok S (fun vs H Q E h => sp_len h) fun cdv A outer s H vs Q E hr h => ⟨_, body cdv A outer s H E hr, ?_⟩
  obtain ⟨F, as, el, sF, tb, nt, p, q⟩ := h
  refine ⟨H, F, F, _, sr_start sF tb nt p (by rw [el]; exact hN), ?_⟩
  have q2 : RPost G F H Q E (runFn N.length m as) := q
  unfold runFn at q2
  show SPost G _ H F F _ (m (startSl N.length as))
  unfold startSl
  cases e : m (as.map Slot.ofArg ++ List.replicate (N.length - as.length) .no) with
  | nx sl => rw [e] at q2; exact fun σ' H' F' S' s' => q2 .non H' F' S'.growT S'.tabs rfl
  | bk sl => rw [e] at q2; exact q2.elim
  | ct sl => rw [e] at q2; exact q2.elim
  | rt d fr => rw [e] at q2; exact q2
  | exc c sl => rw [e] at q2; exact fun σ' H' F' S' s' => q2 H' F' S'.growT S'.tabs
  | bad => rw [e] at q2; exact q2.elim
theorem callF_mk {P : Program} {w : World} {base : Heap} {x : Str} {st : Stmt} {N ps : List Str} {k : Nat} {m : MS} (V : HF fa fn G mg) (i j : Nat) (S : FnScope N ps (defScope st)) (hN : ps.length ≤ N.length)
    (hb : ∀ (kV doc pm : Value) (an : Option Addr) (cdv ct : Value) (us : List Value), us.length = ps.length → bindArgs (PySem.W.fnOf x x (defArgs st) (defBody st) (defScope st) .none kV doc pm an cdv ct) ⟨us, []⟩ = pure (ps.zip us))
    (body : ∀ (f : Addr) (cdv : Value) (A : Around) (outer : List Env) (s : Shared) (H : Hp) (E : XK), Room k (A.deeper (envOfC x (defScope st) s.heap.objs.size f cdv)) →
      DSs (cxOf (L2N.CX P w) P w G.K mg base N x (defScope st) f cdv A outer s H E) G (fun cls d _ H => E cls d H) (defBody st) m)
    (hd : fn[i]? = some ⟨(x, none), x, x, defArgs st, defBody st, defScope st, [], []⟩ := by rfl) (hj : fa[j]? = some (.glo x) := by rfl) : CallF P w mg base G (k + 1) x ps.length (runFn N.length m) := by
  obtain ⟨fd, Fd⟩ := V.c.def_ i hd
  exact ⟨_, fd, ps, fn_dlD Fd S hN (body _), V.glo j hj, Fd.kp, Fd.bindsN hb⟩
end
theorem hu65 {A : Around} {k : Nat} (hr : Room k A) : A.units + 65 < cLine := by have := hr.un; omega
theorem hu64 {A : Around} {k : Nat} (hr : Room k A) : A.units + 64 < cLine := by have := hr.un; omega
theorem hu1 {A : Around} {k : Nat} (hr : Room k A) : A.units + 1 < cLine := by have := hr.un; omega
/-- built-ins by what they do -/
theorem de_kB {x : Str} {id : String} {f : List D → Option Rv} {e : Expr} {es : List Expr} {mm : MA} {p pos : Pos} (h : ∃ r, CallR X (.builtin id) r ∧ OpNOk G r f) (hg : Gl X x) (hm : X.mg x = none) (hv : bootBuiltins x = some (.builtin id)) (ha : DA X G W (e :: es) mm)
    (hn : x ≠ "__name__" := by decide) (hdb : (x == ("__debug__" : Str)) = false := by decide) (he : starEach (e :: es) X.env = (false, eval e X.env) :: starEach es X.env := by rfl) (hpl : (backTo pos (starEach es X.env)).any (·.1) = false := by rfl) : DE X G W (.Call (.Name x p) (e :: es) [] pos) (mOp f mm) :=
  let ⟨_, a, b⟩ := h; de_callB a b hg hm hv ha hn hdb he hpl
theorem de_kT {x : Str} {T : String} {f : List D → Option Rv} {e : Expr} {es : List Expr} {mm : MA} {p pos : Pos} (h : ∃ r, CallR X (.type T) r ∧ OpNOk G r f) (hg : Gl X x) (hm : X.mg x = none) (hv : bootBuiltins x = some (.type T)) (ha : DA X G W (e :: es) mm)
    (hn : x ≠ "__name__" := by decide) (hdb : (x == ("__debug__" : Str)) = false := by decide) (he : starEach (e :: es) X.env = (false, eval e X.env) :: starEach es X.env := by rfl) (hpl : (backTo pos (starEach es X.env)).any (·.1) = false := by rfl) : DE X G W (.Call (.Name x p) (e :: es) [] pos) (mOp f mm) :=
  let ⟨_, a, b⟩ := h; de_callTy a b hg hm hv ha hn hdb he hpl
/-! ### a new value stands while another is made -/
theorem SR.pin (S : SR G H0 F0 sl σ H F) {p : Addr} {o : HO} (hp : H p = some o) (fp : F p = none) (n0 : H0 p = none) (ap : ∀ (j : Nat) (t : Slot), sl[j]? = some t → t.mine = true → σ[j]? ≠ some (some (.ref p))) : SR G (upd H0 p o) F0 sl σ H F := by
  refine ⟨⟨fun a u e => ?_, S.grow.fsub, S.grow.sub, fun a e n => ?_⟩, S.len, fun i s e => ?_, S.sep, S.tabs, S.nt⟩
  · by_cases z : a = p
    · subst z; rw [upd_same] at e; cases e; exact .inl hp
    · rw [upd_ne z] at e; exact S.grow.ext a u e
  · by_cases z : a = p
    · subst z; exact absurd fp n
    · rw [upd_ne z]; exact S.grow.new a e n
  · have R := S.rel i s e
    cases s with
    | no => trivial
    | val d => exact R
    | own d =>
      obtain ⟨a, e1, f, z1, w⟩ := R
      exact ⟨a, e1, f, by rw [upd_ne fun z => ap i _ e rfl (by rw [e1, z])]; exact z1, w⟩
    | lck d =>
      obtain ⟨a, e1, f, z1, w⟩ := R
      exact ⟨a, e1, f, by rw [upd_ne fun z => ap i _ e rfl (by rw [e1, z])]; exact z1, w⟩
    | thk r => exact R
    | thks rs => exact R
    | lams ids =>
      obtain ⟨a, fs, e1, hz, f, z1, q, r⟩ := R
      exact ⟨a, fs, e1, hz, f, by rw [upd_ne fun z => ap i _ e rfl (by rw [e1, z])]; exact z1, q, r⟩
theorem SR.unpin {p : Addr} {o : HO} (S : SR G (upd H0 p o) F0 sl σ H F) (n0 : H0 p = none) (f0 : F0 p = none) (no : ∀ ps, o ≠ .tbl ps) (ne2 : ∀ φ, o ≠ .ext φ) :
    F p = none ∧ H p = some o ∧ (∀ (j : Nat) (t : Slot), sl[j]? = some t → t.mine = true → σ[j]? ≠ some (some (.ref p))) ∧ SR G H0 F0 sl σ H F := by
  have hF : F p = none := by
    cases q : F p with
    | none => rfl
    | some o' =>
      rcases S.grow.new p f0 (by rw [q]; exact fun z => nomatch z) with this | ⟨φ, this⟩
      · rw [upd_same] at this; cases this
      · rw [upd_same] at this; exact absurd (Option.some.inj this) (ne2 φ)
  have hH : H p = some o := by
    rcases S.grow.ext p _ upd_same with z | ⟨ps, _, z, _⟩
    · exact z
    · exact absurd z (no ps)
  have ne : ∀ {a : Addr}, upd H0 p o a = none → a ≠ p := fun h q => by rw [q, upd_same] at h; cases h
  refine ⟨hF, hH, fun j t e m eb => ?_, ⟨fun a u e => ?_, S.grow.fsub, S.grow.sub, fun a e n => ?_⟩, S.len, fun i s e => ?_, S.sep, S.tabs, S.nt⟩
  · obtain ⟨b, u, e2, _, z2, _⟩ := (S.rel j t e).mine m
    rw [eb] at e2
    cases e2
    exact ne z2 rfl
  · have z := ne_of_none e n0
    exact S.grow.ext a u (by rw [upd_ne z]; exact e)
  · by_cases z : a = p
    · rw [z]; exact .inl n0
    · have := S.grow.new a e n
      rw [upd_ne z] at this; exact this
  · have R := S.rel i s e
    cases s with
    | no => trivial
    | val d => exact R
    | own d =>
      obtain ⟨a, e1, f, z1, w⟩ := R
      rw [upd_ne (ne z1)] at z1
      exact ⟨a, e1, f, z1, w⟩
    | lck d =>
      obtain ⟨a, e1, f, z1, w⟩ := R
      rw [upd_ne (ne z1)] at z1
      exact ⟨a, e1, f, z1, w⟩
    | thk r => exact R
    | thks rs => exact R
    | lams ids =>
      obtain ⟨a, fs, e1, hz, f, z1, q, r⟩ := R
      rw [upd_ne (ne z1)] at z1
      exact ⟨a, fs, e1, hz, f, z1, q, r⟩
theorem RvOk.base {p : Addr} {o : HO} {r : Rv} {v : V} (h : RvOk G (upd H0 p o) H F sl σ r v) : RvOk G H0 H F sl σ r v ∧ ∀ d, r = .new d → v ≠ .ref p := by
  cases r with
  | dat d => exact ⟨h, fun _ e => nomatch e⟩
  | slot i => exact ⟨h, fun _ e => nomatch e⟩
  | new d =>
    obtain ⟨a, rfl, f, z, w, ap⟩ := h
    have n : a ≠ p := fun e => by rw [e, upd_same] at z; cases z
    rw [upd_ne n] at z
    exact ⟨⟨a, rfl, f, z, w, ap⟩, fun _ _ e => n (by cases e; rfl)⟩
/-- a value is stored that is no slot's -/
theorem put_ok {i : Nat} {r : Rv} {v : V} {s : Slot} (S : SR G H0 F0 sl σ H F) (h : RvOk G H0 H F sl σ r v) (e : parSlot r = some s) : SR G H0 F0 (sl.set i s) (σ.set i (some v)) H F := by
  cases r with
  | dat d => cases e; exact S.put (s := .val d) ⟨v, rfl, h⟩ rfl
  | new d =>
    cases e
    obtain ⟨a, rfl, f, z, w, ap⟩ := h
    exact S.putOwn (s := .own d) ⟨a, rfl, f, z, w⟩ ap
  | slot k => cases e
theorem put_rv {i : Nat} {r r' : Rv} {v v' : V} {s : Slot} (h : RvOk G H0 H F sl σ r v) (n : ∀ k, r ≠ .slot k) (hd : ∀ d d', r = .new d → r' = .new d' → v ≠ v') (e : parSlot r' = some s) (h' : RvOk G H0 H F sl σ r' v') : RvOk G H0 H F (sl.set i s) (σ.set i (some v')) r v := by
  cases r with
  | dat d => exact h
  | slot k => exact absurd rfl (n k)
  | new d =>
    obtain ⟨a, rfl, f, z, w, ap⟩ := h
    refine ⟨a, rfl, f, z, w, fun j t ej m => ?_⟩
    by_cases q : i = j
    · subst q
      have hi : i < sl.length := by
        have := (List.getElem?_eq_some_iff.mp ej).1
        rwa [List.length_set] at this
      rw [List.getElem?_set_self hi] at ej
      cases ej
      cases r' with
      | dat d' => cases e; cases m
      | slot k => cases e
      | new d' =>
        intro e2
        have e3 : some (some v') = some (some (V.ref a)) := by
          by_cases hl : i < σ.length
          · rw [List.getElem?_set_self hl] at e2; exact e2
          · rw [List.getElem?_eq_none (by rw [List.length_set]; omega)] at e2; cases e2
        cases e3
        exact hd d d' rfl rfl rfl
    · rw [List.getElem?_set_ne q] at ej
      rw [List.getElem?_set_ne q]
      exact ap j t ej m
theorem ts_par {i j : Nat} {a b : ME} {D : Ends} (q : TSd G W (msPar i j a b) D σ H) : tPar i j (tCons (TEd G W a) (tCons (TEd G W b) tNil)) D σ H := by
  obtain ⟨H0, F0, F, sl, S, q⟩ := q
  refine TEd.sbind S q fun ra sl1 v H1 F1 S1 s1 R1 q1 => ?_
  cases ra with
  | slot k =>
    refine TEd.sbind S1 q1 fun rb sl2 w H2 F2 S2 s2 R2 q2 => (show False from by cases rb <;> exact q2).elim
  | dat d =>
    refine TEd.sbind S1 q1 fun rb sl2 w H2 F2 S2 s2 R2 q2 => ⟨v, w, rfl, ?_⟩
    have R1' : RvOk G H0 H2 F2 sl2 σ (.dat d) v := Rep.mono s2 _ _ R1
    have S3 := put_ok (i := i) S2 R1' rfl
    cases rb with
    | slot k => exact (show False from q2).elim
    | dat d2 =>
      have q3 : SPost G W H0 F0 F2 D (.nx ((sl2.set i (.val d)).set j (.val d2))) := q2
      exact q3 _ H2 F2 (put_ok S3 (put_rv (r' := .dat d) (v' := v) R2 (fun k e => nomatch e) (fun _ _ e => nomatch e) rfl R1') rfl) (Same.refl _)
    | new d2 =>
      have q3 : SPost G W H0 F0 F2 D (.nx ((sl2.set i (.val d)).set j (.own d2))) := q2
      exact q3 _ H2 F2 (put_ok S3 (put_rv (r' := .dat d) (v' := v) R2 (fun k e => nomatch e) (fun _ _ _ e => nomatch e) rfl R1') rfl) (Same.refl _)
  | new d =>
    obtain ⟨p, rfl, fp, zp, wp, ap⟩ := id R1
    obtain ⟨o, ho, not, _, ne2⟩ := wp.there
    have f0 : F0 p = none := by
      cases e : F0 p with
      | none => rfl
      | some u => have := S1.grow.fsub _ _ e; rw [fp] at this; cases this
    have SP := S1.pin ho fp zp ap
    refine TEd.go SP (fun c sl2 e => ?_) (fun e => ?_) fun rb sl2 w H2 F2 e S2 s2 R2 => ⟨_, w, rfl, ?_⟩
    · rw [e] at q1
      exact fun H' F' S' s' => q1 σ H' F' (S'.unpin zp f0 not ne2).2.2.2 s'
    · rw [e] at q1
      exact q1
    · rw [e] at q1
      obtain ⟨hF, hH, hap, S3⟩ := S2.unpin zp f0 not ne2
      obtain ⟨R2', hne⟩ := R2.base
      have R1' : RvOk G H0 H2 F2 sl2 σ (.new d) (.ref p) := ⟨p, rfl, hF, zp, wp.move (by rw [hH, ho]) s2, hap⟩
      have S4 := put_ok (i := i) S3 R1' rfl
      cases rb with
      | slot k => exact (show False from q1).elim
      | dat d2 =>
        have q3 : SPost G W H0 F0 F1 D (.nx ((sl2.set i (.own d)).set j (.val d2))) := q1
        exact q3 _ H2 F2 (put_ok S4 (put_rv (i := i) (r' := .new d) (v' := .ref p) R2' (fun k e => nomatch e) (fun _ _ e => nomatch e) rfl R1') rfl) s2
      | new d2 =>
        have q3 : SPost G W H0 F0 F1 D (.nx ((sl2.set i (.own d)).set j (.own d2))) := q1
        exact q3 _ H2 F2 (put_ok S4 (put_rv (i := i) (r' := .new d) (v' := .ref p) R2' (fun k e => nomatch e) (fun d1 d2 e _ => hne d1 e) rfl R1') rfl) s2
theorem ds_par {i j : Nat} {x y : Str} {a b : Expr} {ma mb : ME} {px py pt pos : Pos} {kt k2 : Nat} {pt2 : Pos} (hc : X.calm = true) (hN : X.N.Nodup) (hi : X.N[i]? = some x) (hj : X.N[j]? = some y) (hij : i ≠ j)
    (hx : X.env.scope.names.lookup x = some .local) (hy : X.env.scope.names.lookup y = some .local) (ha : DE X G W a ma) (hb : DE X G W b mb)
    (hst : starEach [a, b] X.env = (false, eval a X.env) :: starEach [b] X.env := by rfl) (hst2 : starEach [b] X.env = (false, eval b X.env) :: starEach [] X.env := by rfl)
    (hw : swappedStores [.Tuple [.Name x px, .Name y py] kt pt] (.Tuple [a, b] k2 pt2) X.env = pure (some [x, y]) := by rfl)
    (hs : swapsWithSole [.Tuple [.Name x px, .Name y py] kt pt] (.Tuple [a, b] k2 pt2) pos.line X.env = pure false := by rfl) :
    DS X G W (.Assign [.Tuple [.Name x px, .Name y py] kt pt] (.Tuple [a, b] k2 pt2) pos) (msPar i j ma mb) :=
  (ps_par hc hN hi hj hij hx hy (pa_cons ha (pa_cons hb pa_nil hst2) hst) hw hs).mono fun D σ H q => ts_par q
end
end DL
end
section
set_option linter.all false
set_option maxRecDepth 100000
set_option maxHeartbeats 4000000
set_option autoImplicit false
namespace DL
open PySem L2 PySem.Spec PyProof.Rows
section
theorem mem_dedup {κ : Type} [DecidableEq κ] : ∀ (xs : List κ) (z : κ), z ∈ dedupL xs ↔ z ∈ xs
  | [], z => Iff.rfl
  | x :: r, z => by
    unfold dedupL
    by_cases h : x ∈ r
    · rw [if_pos h, mem_dedup r z, List.mem_cons]
      exact ⟨.inr, fun q => q.elim (fun e => e ▸ h) id⟩
    · rw [if_neg h, List.mem_cons, List.mem_cons, mem_dedup r z]
theorem nodup_dedup {κ : Type} [DecidableEq κ] : ∀ xs : List κ, (dedupL xs).Nodup
  | [] => List.nodup_nil
  | x :: r => by
    unfold dedupL
    by_cases h : x ∈ r
    · rw [if_pos h]; exact nodup_dedup r
    · rw [if_neg h]; exact List.nodup_cons.mpr ⟨fun q => h ((mem_dedup r x).mp q), nodup_dedup r⟩
theorem same_len {κ : Type} [DecidableEq κ] {xs ys : List κ} (hx : xs.Nodup) (hy : ys.Nodup) (h : ∀ z, z ∈ xs ↔ z ∈ ys) : xs.length = ys.length :=
  ((List.perm_ext_iff_of_nodup hx hy).mpr h).length_eq
variable {X : Cx} {G : Gx} {W : WX} {H0 F0 H F H1 F1 : Hp} {sl sl1 : Sl} {σ : L2.St}
/-- the items of a sequence value -/
def SeqR (K : PySem.W.Frag) (H : Hp) (v : V) (xs : List V) : Prop := ∃ l, v = .ref l ∧ (SqL K H l xs ∨ SqT K H l xs)
/-- len(set(e)) -/
theorem pe_lenSetG {a : Expr} {ta : TE} {p p2 q pos : Pos} (hc : X.calm = true) (hu : X.A.units + 64 < cLine) (hg : Gl X "len") (hm : X.mg "len" = none) (hg2 : Gl X "set") (hm2 : X.mg "set" = none) (ha : PE X a ta)
    (na : starEach [a] X.env = (false, eval a X.env) :: starEach [] X.env := by rfl) : PE X (.Call (.Name "len" p) [.Call (.Name "set" p2) [a] [] q] [] pos)
      (fun σ H Q => ta σ H fun v H1 => ∃ l xs, v = .ref l ∧ (SqL X.K H1 l xs ∨ SqT X.K H1 l xs) ∧ xs.length ≤ 1000 ∧
        ((∃ zs : List Str, xs = zs.map V.str ∧ Q (.int (dedupL zs).length) H1) ∨ (∃ (as : List Addr) (ks : List (List Str)), xs = as.map V.ref ∧ Paired (fun a k => SqT X.K H1 a (k.map V.str)) as ks ∧ ks.length ≤ 4 ∧ Q (.int (dedupL ks).length) H1))) := by
  refine ⟨fun pins s σ H Q I h => ?_⟩
  refine Call_ (ld_blt I hg hm boot_len ?_)
  refine PyProof.Rows.callWith_builtin1 (PyProof.Rows.args_cons ?_ rfl) rfl rfl
  refine Call_ (ld_blt I hg2 hm2 boot_set ?_)
  refine PyProof.Rows.callWith_type1 (PyProof.Rows.args_cons (thn (ha.run pins s σ H _ I h) fun v s1 ⟨x, H1, I1, r1, q1⟩ => PyProof.Rows.args_nil ?_) na) na rfl
  obtain ⟨l, xs, rfl, hq, hl, q1⟩ := q1
  cases r1
  have fin : ∀ {κ : Type} [DecidableEq κ] (Γ : DLS.Gath X.prog X.w s1.heap κ) (ks : List κ), Q (.int (dedupL ks).length) H1 → ks.length ≤ 1000 → ∀ (h' : Heap) (tk : Nat) (L : List κ), Γ.St h' s1.heap.objs.size L → (∀ z, z ∈ L ↔ z ∈ ks) → (∀ b o, s1.heap.get? b = some o → h'.get? b = some o) →
      wpAny (model X.prog X.w) X.A (spliced (backTo pos (starEach [] X.env))) (fun vs s₂ => wpAny (model X.prog X.w) X.A (call (.builtin "len") (Value.ref s1.heap.objs.size :: vs)) (EP X pins σ Q) X.xe s₂) X.xe { s1 with heap := h', toks := tk } := fun {κ} _ Γ ks qq hks h' tk L gs mem up => by
    refine PyProof.Rows.args_nil ?_
    obtain ⟨nd, o, es, ep, t, ho, hex, hd, hf, hn⟩ := Γ.out _ _ _ gs
    have I2 : Inv X pins σ H1 { s1 with heap := h', toks := tk } := I1.kept fun b o e => up b o e
    have el : L.length = (dedupL ks).length := same_len nd (nodup_dedup ks) fun z => by rw [mem z, mem_dedup]
    have small : (dedupL ks).length ≤ ks.length := by
      have go : ∀ xs : List κ, (dedupL xs).length ≤ xs.length := by
        intro xs
        induction xs with
        | nil => exact Nat.le_refl _
        | cons x r ih =>
          unfold dedupL
          split
          · exact Nat.le_succ_of_le ih
          · exact Nat.succ_le_succ ih
      exact go ks
    exact call_len_set ho hex hd hf (by rw [hn]; omega) ⟨.int (dedupL ks).length, H1, I2.tok _, ⟨_, by rw [hn, el]⟩, qq⟩
  have hu3 : X.A.units + 3 < cLine := by omega
  have go : ∀ {κ : Type} [DecidableEq κ] (Γ : DLS.Gath X.prog X.w s1.heap κ) (ks : List κ) (its : List Value), Q (.int (dedupL ks).length) H1 → ks.length ≤ 1000 → ks.length ≤ Γ.cap → its.length = ks.length → (∀ (i : Nat) (v : Value), its[i]? = some v → ∃ k, ks[i]? = some k ∧ Γ.Is k v) → Vals xs its →
      (s1.heap.IsList l its.toArray ∨ s1.heap.IsTuple l its.toArray) → wpAny (model X.prog X.w) X.A (call (.type "set") [Value.ref l]) (fun v s₁ => wpAny (model X.prog X.w) X.A (spliced (backTo pos (starEach [] X.env))) (fun vs s₂ => wpAny (model X.prog X.w) X.A (call (.builtin "len") (v :: vs)) (EP X pins σ Q) X.xe s₂) X.xe s₁) X.xe s1 := fun {κ} _ Γ ks its qq hks hcap en hi _ pl => by
    rcases pl with pl | pl
    · exact DLS.call_list Γ ks (I1.ok.hd hc) pl (by simpa using en) (fun i v e => hi i v (by simpa using e)) hcap hu3 fun h' tk L gs mem up => fin Γ ks qq hks h' tk L gs mem up
    · exact DLS.call_tuple Γ ks (I1.ok.hd hc) pl (by simpa using en) (fun i v e => hi i v (by simpa using e)) hcap hu3 fun h' tk L gs mem up => fin Γ ks qq hks h' tk L gs mem up
  obtain ⟨its, rv, pl⟩ : ∃ its : List Value, Vals xs its ∧ (s1.heap.IsList l its.toArray ∨ s1.heap.IsTuple l its.toArray) := by
    rcases hq with hq | hq
    · obtain ⟨its, r, pl, _⟩ := I1.list hq
      exact ⟨its, r, .inl pl.isList⟩
    · obtain ⟨its, r, pl, _⟩ := I1.tuple hq
      exact ⟨its, r, .inr pl⟩
  have hlen := rv.length
  rcases q1 with ⟨zs, rfl, q1⟩ | ⟨as, ks, rfl, pp, h4, q1⟩
  · rw [List.length_map] at hl hlen
    refine go (DLS.gStr X.prog X.w s1.heap) zs its q1 hl hl hlen.symm (fun i v e => ?_) rv pl
    have hi : i < zs.length := by have := (List.getElem?_eq_some_iff.mp e).1; omega
    obtain ⟨u, hu2, t, ht⟩ := rv.get (i := i) (x := .str zs[i]) (by simp [hi])
    rw [e] at hu2
    cases hu2
    refine ⟨zs[i], List.getElem?_eq_getElem hi, ?_⟩
    show (PySem.strKind X.prog X.w).is zs[i] v = true
    rw [ht]
    exact beq_self_eq_true zs[i]
  · rw [List.length_map] at hl hlen
    have lk : ks.length = as.length := by
      have go : ∀ {P : Addr → List Str → Prop} {l : List Addr} {m : List (List Str)}, Paired P l m → m.length = l.length := by
        intro P l m p
        induction p with
        | nil => rfl
        | cons _ _ ih => rw [List.length_cons, List.length_cons, ih]
      exact go pp
    refine go (DLS.gTup X.prog X.w s1.heap) ks its q1 (by omega) h4 (by omega) (fun i v e => ?_) rv pl
    have hi : i < as.length := by have := (List.getElem?_eq_some_iff.mp e).1; omega
    obtain ⟨u, hu2, r2⟩ := rv.get (i := i) (x := .ref as[i]) (by simp [hi])
    rw [e] at hu2
    cases hu2
    cases r2
    obtain ⟨k, ek, sq⟩ := paired_get pp (List.getElem?_eq_getElem hi)
    obtain ⟨us, r3, pl3, _⟩ := I1.tuple sq
    refine ⟨k, ek, as[i], rfl, ?_⟩
    obtain ⟨o, eo, hcl, n, hd⟩ := pl3
    refine ⟨o, us.toArray, n, eo, hcl, hd, ?_⟩
    have im : ∀ {k : List Str} {us : List Value}, Vals (k.map V.str) us → ItemsAre (PySem.strKind X.prog X.w) k us := by
      intro k
      induction k with
      | nil => intro us r; cases r; exact .nil
      | cons z k ih =>
        intro us r
        cases r with
        | cons r1 r2 =>
          obtain ⟨t, rfl⟩ := r1
          exact .cons (beq_self_eq_true z) (ih r2)
    exact im r3
theorem strTups_ok {K : PySem.W.Frag} {H F : Hp} (sF : Same F H) : ∀ {ds : List D} {vs : List V} {ks : List (List Str)}, Reps K F ds vs → strTups? ds = some ks → ∃ as : List Addr, vs = as.map V.ref ∧ Paired (fun a k => SqT K H a (k.map V.str)) as ks
  | [], vs, ks, r, e => by
    cases e
    simp only [Reps] at r
    exact ⟨[], r, .nil⟩
  | d :: ds, vs, ks, r, e => by
    unfold strTups? at e
    split at e
    · rename_i e0; cases e0
    · rename_i es ds' e0
      cases e0
      obtain ⟨k, e1, e2⟩ := Option.bind_eq_some_iff.mp e
      obtain ⟨ks', e3, e4⟩ := Option.map_eq_some_iff.mp e2
      subst e4
      simp only [Reps] at r
      obtain ⟨v, ws, rfl, ⟨hz, a, xs, rfl, ea, rx⟩, r2⟩ := r
      have ex := strs_reps rx e1
      subst ex
      obtain ⟨as, e5, p⟩ := strTups_ok sF r2 e3
      subst e5
      exact ⟨a :: as, rfl, .cons (SqT.of (sF _ _ ea)) p⟩
    · cases e
theorem de_lenSet {e : Expr} {m : ME} {p1 p2 p3 p4 : Pos} (hK : X.K = G.K) (hc : X.calm = true) (hu : X.A.units + 64 < cLine) (hg : Gl X "len") (hm : X.mg "len" = none) (hg2 : Gl X "set") (hm2 : X.mg "set" = none) (he : DE X G W e m)
    (na : starEach [e] X.env = (false, eval e X.env) :: starEach [] X.env := by rfl) : DE X G W (.Call (.Name "len" p1) [.Call (.Name "set" p2) [e] [] p3] [] p4) (mUn opLenSet m) := by
  refine (pe_lenSetG hc hu hg hm hg2 hm2 he na).mono fun σ H Q q => te_un (r := fun v H1 Q => ∃ l xs, v = .ref l ∧ (SqL X.K H1 l xs ∨ SqT X.K H1 l xs) ∧ xs.length ≤ 1000 ∧
        ((∃ zs : List Str, xs = zs.map V.str ∧ Q (.int (dedupL zs).length) H1) ∨ (∃ (as : List Addr) (ks : List (List Str)), xs = as.map V.ref ∧ Paired (fun a k => SqT X.K H1 a (k.map V.str)) as ks ∧ ks.length ≤ 4 ∧ Q (.int (dedupL ks).length) H1))) (fun H F x v z Q sF tb px e k => ?_) q
  rw [hK]
  unfold opLenSet at e
  obtain ⟨ds, e1, e2⟩ := Option.bind_eq_some_iff.mp e
  obtain ⟨l, xs, rfl, hsq, r⟩ : ∃ l xs, v = .ref l ∧ (SqL G.K H l xs ∨ SqT G.K H l xs) ∧ Reps G.K F ds xs := by
    cases x with
    | lst es =>
      cases e1
      obtain ⟨_, a, vs, rfl, ea, r⟩ := px.lst sF
      exact ⟨a, vs, rfl, .inl (SqL.of ea), r⟩
    | tup es =>
      cases e1
      obtain ⟨_, a, vs, rfl, ea, r⟩ := px.tup
      exact ⟨a, vs, rfl, .inr (SqT.of (sF _ _ ea)), r⟩
    | _ => cases e1
  split at e2
  · rename_i zs e3
    split at e2
    · rename_i hz
      cases e2
      have ex := strs_reps r e3
      subst ex
      exact ⟨l, _, rfl, hsq, by rw [List.length_map]; exact hz, .inl ⟨zs, rfl, k _ H F (GrowT.refl sF) rfl⟩⟩
    · cases e2
  · split at e2
    · rename_i ks e3
      split at e2
      · rename_i hz
        cases e2
        obtain ⟨as, rfl, p⟩ := strTups_ok sF r e3
        have lk := paired_len p
        exact ⟨l, _, rfl, hsq, by rw [List.length_map]; omega, .inr ⟨as, ks, rfl, p, hz, k _ H F (GrowT.refl sF) rfl⟩⟩
      · cases e2
    · cases e2
end
end DL
end
section
set_option linter.all false
set_option maxRecDepth 100000
set_option maxHeartbeats 4000000
set_option autoImplicit false
namespace DLH
open PySem L2 PySem.Spec PyProof.Rows HotX
/-! ### where an exception is handled: a list walked to its end, summed -/
section
variable {prog : Program} {w : World} {A : Around} {E : Value → Shared → Prop} {s : Shared}
theorem list_end {it l x1 : Addr} {i : Nat} {items : Array Value} {Q : Option Value → Shared → Prop} (hot : HotAt A x1 s.heap) (ne : x1 ≠ it) (hit : s.heap.IsListIter it l i) (hl : s.heap.IsList l items) (hx : items[i]? = none)
    (q : ∀ h', Heap.ExtBut it s.heap h' → Q none { s with heap := h' }) : wpAny (model prog w) A (pyNext (.ref it)) Q E s := by
  obtain ⟨o, ho, hc, hd⟩ := id hit
  obtain ⟨ol, eol, _, nl, hdl⟩ := hl
  obtain ⟨hh, o1, vs1, h1, d1, c1⟩ := hot
  unfold pyNext
  refine wpAny_bind (wpAny_attempt (wpAny_callSpecial?_slot (name := Str.ofString "__next__") hit.typeIs slot_listiter_next (wpAny_call_entry slot_listiter_next hit.typeIs entry_listiter_next ?_ (args_listiter_next _))))
  show wpAny _ _ (field (.ref it) 0 >>= _) _ _ s
  refine wpAny_bind (wpAny_field ho hd (x := .ref l) rfl ?_)
  show wpAny _ _ (if (Value.ref l == Value.none) = true then _ else _) _ _ s
  rw [if_neg (show ¬ ((Value.ref l == Value.none) = true) from Bool.false_ne_true)]
  show wpAny _ _ (field (.ref it) 1 >>= _) _ _ s
  refine wpAny_bind (wpAny_field ho hd (x := .int i 0) rfl ?_)
  show wpAny _ _ (seqItems? (.ref l) >>= _) _ _ s
  refine wpAny_bind (wpAny_seqItems eol hdl ?_)
  simp only [Int.toNat_natCast, hx]
  refine wpAny_bind (wpAny_rule (wpAny_bind (wpAny_setField ho hd (by simp) ?_)))
  show wpAny _ _ (newExc (.type "StopIteration") [] >>= _) _ _ _
  refine wpAny_bind ?_
  simp only [newExc, newTuple]
  refine wpAny_bind (wpAny_newObj_type ?_ (by size_fits))
  refine wpAny_bind (m := firstArgMember _ _) (wpAny_of_eq (a := Value.none) (by first | rfl | (simp only [firstArgMember]; rfl)) ?_)
  refine wpAny_newObj_type ?_ (by size_fits)
  have sb : ∀ b o', b ≠ it → s.heap.get? b = some o' → (s.heap.update it (Obj.mapFields (·.setIfInBounds 0 .none))).get? b = some o' := fun b o' hb e => (Heap.get?_update_other _ _ (Ne.symm hb)).trans e
  generalize s.heap.update it (Obj.mapFields (·.setIfInBounds 0 .none)) = h2 at sb ⊢
  have e1 : h2.get? x1 = some o1 := sb x1 o1 ne h1
  refine raiseNew_hot ⟨hh, o1, vs1, Heap.get?_push_of_some _ (Heap.get?_push_of_some _ e1), d1, c1⟩ (Nat.ne_of_lt (Heap.lt_size (Heap.get?_push_of_some _ e1))) (Heap.get?_push_size _ rfl) rfl (by first | (simp; done) | (simp; omega) | (simp only [Array.size_append]; simp; omega)) ?_
  refine wpAny_bind (wpAny_isInstance (T := "StopIteration") (b := true) ⟨_, Heap.get?_update_self _ (Heap.get?_push_size _ rfl) rfl, rfl⟩ isSubtype_stop ?_)
  refine wpAny_pure (q _ fun b o' hb e => ?_)
  have e2 := sb b o' hb e
  rw [Heap.get?_update_other _ _ (Nat.ne_of_gt (Heap.lt_size (Heap.get?_push_of_some _ e2)))]
  exact Heap.get?_push_of_some _ (Heap.get?_push_of_some _ e2)
/-- a list's walk there -/
theorem listHot {x1 : Addr} {o1 : Obj} {vs1 : Array Value} (hh : A.handled = some (.ref x1)) (d1 : o1.data = .fields vs1) (c1 : vs1[2]? = some .none) (I l : Addr) (hne : l ≠ I) (hx : x1 ≠ I) (items : Array Value) :
    Walks prog w A I [I, l, x1] [I] items.size (fun i v => items[i]? = some v) (fun i h => h.IsListIter I l i ∧ h.IsList l items ∧ h.get? x1 = some o1) where
  sub := fun b hb => by simp at hb; simp [hb]
  frame := fun _ _ _ st hk => ⟨st.1.at fun o e => hk I (by simp) o e, st.2.1.at fun o e => hk l (by simp) o e, hk x1 (by simp) _ st.2.2⟩
  item := fun i s Q E hi st hQ => by
    refine wpAny_pyNext_list_item st.1 st.2.1 (x := items[i]) (by simp [hi]) fun h' hit' hs' => ?_
    exact hQ _ h' s.toks (by simp [hi]) ⟨hit', st.2.1.extBut hs'.extBut hne, hs'.extBut x1 _ hx st.2.2⟩ fun b o hb e => hs'.extBut b o (fun h => hb (by simp [h])) e
  done := fun s Q E st hQ => list_end ⟨hh, o1, vs1, st.2.2, d1, c1⟩ hx st.1 st.2.1 (by simp) fun h' he' => hQ h' s.toks fun b o hb e => he' b o (fun h => hb (by simp [h])) e
  self := fun _ _ _ _ st hQ => wpAny_pyIter_listiter st.1 hQ
theorem sumHot {l x1 : Addr} {its : List Value} {ns : List Int} {Q : Value → Shared → Prop} (hot : HotAt A x1 s.heap) (hl : s.heap.IsList l its.toArray) (hi : IntsAre its ns)
    (q : ∀ h' tk t', (∀ b o, s.heap.get? b = some o → h'.get? b = some o) → Q (.int ns.sum t') { s with heap := h', toks := tk }) : wpAny (model prog w) A (call (.builtin "sum") [.ref l]) Q E s := by
  obtain ⟨hh, o1, vs1, h1, d1, c1⟩ := hot
  obtain ⟨xs, e⟩ := hi.allInts.items
  have hn : numsOf (intItems xs).toList = ns := by rw [← e]; exact hi.numsOf
  rw [nums_intItems] at hn
  rw [e] at hl
  refine call_sum_walkG (iter_intList hl fun s₂ e st hfp hlI => ?_)
  subst e
  have lt1 := Heap.lt_size h1
  refine ⟨_, _, _, _, _, _, numAt xs, rfl, listHot (A := A.in1) hh d1 c1 s.heap.objs.size l hlI (Nat.ne_of_lt lt1) (intItems xs), ⟨st.1, st.2, Heap.get?_push_of_some _ h1⟩, fun b hb => ?_, (fun _ _ => intItems_at), fun h' tk t' hk => ?_⟩
  · rcases List.mem_cons.mp hb with rfl | hb
    · exact hfp _ (by simp)
    · rcases List.mem_cons.mp hb with rfl | hb
      · exact hfp _ (by simp)
      · rw [List.mem_singleton.mp hb]
        exact Heap.lt_size (Heap.get?_push_of_some _ h1)
  · have z := q h' tk t' fun b o e => hk b o (by simp; exact Nat.ne_of_lt (Heap.lt_size e)) (Heap.get?_push_of_some _ e)
    rw [← hn] at z
    have e2 : preSum (numAt xs) (intItems xs).size = (xs.toList.map (·.1)).sum := by
      rw [preSum_eq, List.take_of_length_le (by simp [intItems])]
    rw [e2]
    exact z
end
end DLH
end
section
set_option linter.all false
set_option maxRecDepth 100000
set_option maxHeartbeats 4000000
set_option autoImplicit false
namespace DLH
open PySem L2 PySem.Spec PyProof.Rows HotX L2H
section
variable {X : Cx}
/-- [f(y) for y in a list], where an exception is handled; the element's reading leaves the heap as it is -/
theorem pe_lcH {elt iter : Expr} {y : Str} {py pos : Pos} {scope : Scope} {i : Nat} {te tl : TE} (hot : HotC X) (hN : X.N.Nodup) (hl : PE X iter tl) (ok : BlkOk X.N X.env.scope scope [(y, i)])
    (hg : ∀ (s : Shared) (H : Hp) (C : Addr) (cl : List (Str × Addr)) (fp : List Addr), PG (X.blk s H scope (compEnvC scope cl C X.env) fp) (.Name y py) (gName i))
    (he : ∀ (s : Shared) (H : Hp) (C : Addr) (cl : List (Str × Addr)) (fp : List Addr), PE (X.blk s H scope (compEnvC scope cl C X.env) fp) elt te) (hs : ∀ x, foldedSetIterable iter X.env x = pure x := by intro _; rfl) :
    PE X (.ListComp elt [⟨.Name y py, iter, [], 0⟩] scope pos) (fun σ H Q => tl σ H fun v H1 => ∃ a xs, v = .ref a ∧ SqL X.K H1 a xs ∧ i < σ.length ∧ ∃ f : V → V, (∀ x ∈ xs, ∀ (σ' : L2.St) (H' : Hp), σ'[i]? = some (some x) → te σ' H' fun z H'' => z = f x ∧ H'' = H') ∧
      xs.length ≤ sizeLine ∧ ∀ D, H1 D = none → Q (.ref D) (upd H1 D (.lst (xs.map f)))) := by
  refine ⟨fun pins s σ H Q I h => ?_⟩
  rw [eval_ListComp]
  have need : ∀ z ∈ scope.names, z.2 = .free → ∃ c, X.env.cells.lookup z.1 = some c := fun z hz e => by
    rcases ok.free z hz e with k | k
    · exact I.ok.has _ (.inl k)
    · exact I.ok.has _ (.inr k)
  refine wpAny_comprehension_free (use := none) rfl hs (closure_ok need) ok.kind (fun z hz e => by rw [ok.uniq z hz, e]) (thn (hl.run pins s σ H _ I h) fun u s1 ⟨v, H1, I1, r1, q⟩ => ?_)
  obtain ⟨a, xs, rfl, sq, hi, f, hf, hz, fin⟩ := q
  cases r1
  obtain ⟨its, rv, pl, _⟩ := I1.list sq
  refine wpAny_pyIter_list pl.isList ?_
  -- the iterator, the new list
  have lenx := rv.length
  generalize hit : s1.heap.objs.size = it
  have nit : H1 it = none := I1.hok.fresh (Nat.le_of_eq hit)
  have f1 : FpOk X pins H1 it := I1.fpOk (Nat.le_of_eq hit) nit
  generalize h2 : ({ s1 with heap := s1.heap.push { cls := .type "list_iterator", data := .fields #[.ref a, .int 0 0] } } : Shared) = s2
  have I2 : Inv X pins σ H1 s2 := by rw [← h2]; exact I1.kept (t' := s1.toks) fun b o e => Heap.get?_push_of_some _ e
  have st2 : s2.heap.IsListIter it a 0 := by rw [← h2, ← hit]; exact ⟨_, Heap.get?_push_size _ rfl, rfl, rfl⟩
  have lt2 : it < s2.heap.objs.size := by rw [← h2, ← hit, Heap.size_push]; exact Nat.lt_succ_self _
  refine wpAny_newObj_type (newEnv_comp ?_) (by show 0 ≤ sizeLine; decide)
  generalize hD : s2.heap.objs.size = D
  have nD : H1 D = none := I2.hok.fresh (Nat.le_of_eq hD)
  generalize h3 : ({ s2 with heap := s2.heap.push { cls := .type "list", data := .seq ([] : List Value).toArray } } : Shared) = s3
  have I3 : Inv X pins σ (upd H1 D (.lst [])) s3 := by
    rw [← h3]
    refine I2.laid (t' := s2.toks) (fun b o e => Heap.get?_push_of_some _ e) (Nat.le_of_eq hD) ⟨Nat.zero_le _, [], 0, .nil, ?_⟩
    rw [← hD]
    exact Heap.get?_push_size _ rfl
  have up3 : ∀ b o, s2.heap.get? b = some o → s3.heap.get? b = some o := fun b o e => by rw [← h3]; exact Heap.get?_push_of_some _ e
  have itD : it ≠ D := by rw [← hD]; exact Nat.ne_of_lt lt2
  have f3 : ∀ b ∈ [it], FpOk X pins (upd H1 D (.lst [])) b ∧ b < s3.heap.objs.size := fun b hb => by
    rw [List.mem_singleton.mp hb]
    refine ⟨⟨by rw [upd_ne itD]; exact nit, f1.2⟩, ?_⟩
    rw [← h3]
    show it < (s2.heap.push _).objs.size
    rw [Heap.size_push]
    exact Nat.lt_succ_of_lt lt2
  obtain ⟨p, ⟨hp1, vs1, hp2, hp3⟩, hp4⟩ := hot
  have P3 := I3.pin p (List.mem_append_left _ hp4)
  have I4 := block_start I3 ok hN f3
  have pg := hg s3 (upd H1 D (.lst [])) s3.heap.objs.size (cellsFrom (s3.heap.objs.size + 1) scope.names (cloFrom X.env.cells scope.names [])) [it]
  have pe := he s3 (upd H1 D (.lst [])) s3.heap.objs.size (cellsFrom (s3.heap.objs.size + 1) scope.names (cloFrom X.env.cells scope.names [])) [it]
  show codeAny _ _ (.compStart (.ListComp elt [⟨.Name y py, iter, [], 0⟩] scope pos) 0 (.ref it) (.ref D) (compEnvC scope (cellsFrom (s3.heap.objs.size + 1) scope.names (cloFrom X.env.cells scope.names [])) s3.heap.objs.size X.env)) (compPost (model X.prog X.w) X.A X.xe none (EP X pins σ Q) (.ref D) s3.heap.objs.size) { s3 with heap := pushCells (s3.heap.push { cls := .type "dict", data := .dict #[] }) scope.names }
  generalize hce : compEnvC scope (cellsFrom (s3.heap.objs.size + 1) scope.names (cloFrom X.env.cells scope.names [])) s3.heap.objs.size X.env = ce at I4 pg pe ⊢
  have cL : ce.locals = s3.heap.objs.size := by subst hce; rfl
  generalize hH3 : upd H1 D (.lst []) = H3 at I3 I4 pg pe f3 P3
  generalize h4 : ({ s3 with heap := pushCells (s3.heap.push { cls := .type "dict", data := .dict #[] }) scope.names } : Shared) = s4 at I4 ⊢
  have st4 : s4.heap.IsListIter it a 0 := st2.at fun o e => by rw [← h4]; exact pushCells_keeps _ _ _ _ (Heap.get?_push_of_some _ (up3 _ _ e))
  have aD : a ≠ D := by
    rw [← hD]
    exact Nat.ne_of_lt (by
      obtain ⟨_, e, _⟩ := pl.isList
      rw [← h2, Heap.size_push]
      exact Nat.lt_succ_of_lt (Heap.lt_size e))
  have ait : a ≠ it := by
    rw [← hit]
    obtain ⟨_, e, _⟩ := pl.isList
    exact Nat.ne_of_lt (Heap.lt_size e)
  have pit : p.1 ≠ it := fun z => by
    have : ∃ o, s1.heap.get? p.1 = some o := ⟨_, (I1.pin p (List.mem_append_left _ hp4)).1⟩
    obtain ⟨o, e⟩ := this
    rw [z, ← hit] at e
    exact absurd (Heap.lt_size e) (Nat.lt_irrefl _)
  -- the list walked is as it was: at any state of the block
  let HK : Nat → Hp := fun k => upd H1 D (.lst ((xs.take k).map f))
  have hK0 : HK 0 = H3 := by show upd H1 D (.lst ((xs.take 0).map f)) = _; rw [List.take_zero]; exact hH3
  have sqK : ∀ k, SqL X.K (HK k) a xs := fun k => by
    rcases sq with (sq | ⟨o, sq⟩) | sq
    · exact .inl (.inl (by show upd H1 D _ a = _; rw [upd_ne aD]; exact sq))
    · exact .inl (.inr ⟨o, by show upd H1 D _ a = _; rw [upd_ne aD]; exact sq⟩)
    · exact .inr sq
  have hotAt : ∀ {σ' : L2.St} {H' : Hp} {s' : Shared}, Inv (X.blk s3 H3 scope ce [it]) [] σ' H' s' → HotAt X.A p.1 s'.heap := fun {σ' H' s'} J => by
    refine ⟨hp1, p.2, vs1, J.base.keep p.1 p.2 P3.1 P3.2.1 (fun hm => ?_) (fun hm => ?_), hp2, hp3⟩
    · have hm : p.1 ∈ frs X.stack := hm
      exact (List.mem_cons.mp (I3.stkSub p.1 hm)).elim P3.2.2.1 P3.2.2.2.1
    · exact pit (List.mem_singleton.mp hm)
  have noIt : ∀ k, HK k it = none := fun k => by show upd H1 D _ it = none; rw [upd_ne itD]; exact nit
  have lens : (L2.wipe σ [i]).length = σ.length := wipe_length _ _
  have loop : codeAny (model X.prog X.w) X.A (.compLoop (.ListComp elt [⟨.Name y py, iter, [], 0⟩] scope pos) 0 (.ref it) (.ref D) ce) (compPost (model X.prog X.w) X.A X.xe none (EP X pins σ Q) (.ref D) s3.heap.objs.size) s4 := by
    refine compLoop_any (fun n s' => ∃ k, n = xs.length - k ∧ k ≤ xs.length ∧ Inv (X.blk s3 H3 scope ce [it]) [] (L2.wipe σ [i]) (HK k) s' ∧ s'.heap.IsListIter it a k) ?_ xs.length ⟨0, rfl, Nat.zero_le _, by rw [hK0]; exact I4, st4⟩
    rintro n s5 ⟨k, rfl, hk, I5, st5⟩
    obtain ⟨its5, rv5, pl5, _⟩ := I5.list (sqK k)
    have len5 := rv5.length
    have fpk : ∀ {σ' : L2.St} {s' : Shared}, Inv (X.blk s3 H3 scope ce [it]) [] σ' (HK k) s' → FpOk (X.blk s3 H3 scope ce [it]) [] (HK k) it := fun {σ' s'} J =>
      ⟨noIt k, (J.ok.exf it (by simp)).1, J.ok.exfs it (by simp), .inl (by simp), fun x c e => (J.ok.exf it (by simp)).2 x c e, fun p hp => absurd (show p ∈ ([] : List (Addr × Obj)) ++ [] from hp) (by simp)⟩
    obtain ⟨g0, g1, g2, g3, g4, g5⟩ := fpk I5
    by_cases lt : k < xs.length
    · have ek : xs[k]? = some xs[k] := List.getElem?_eq_getElem lt
      obtain ⟨u, hu, ru⟩ := rv5.get ek
      refine wpAny_pyNext_list_item st5 pl5.isList (x := u) (by simpa using hu) fun h' st' sb => ?_
      have I6 : Inv (X.blk s3 H3 scope ce [it]) [] (L2.wipe σ [i]) (HK k) { s5 with heap := h' } := I5.turned (t' := s5.toks) (fun b o hb e => (sb.2 b hb).trans e) g0 g1 g3 g4 g5
      obtain ⟨oi, ei, ci, di⟩ := id st'
      refine go_of (s := { s5 with heap := h' }) ei ci di (by decide) ?_
      -- the iterator is pinned through the turn
      have fp6 := fpk I6
      have I6' := I6.pinned (fp := [it]) (fun b hb => by rw [List.mem_singleton.mp hb]; exact fp6) (fun b hb => by rw [List.mem_singleton.mp hb]; exact ⟨oi, ei, fun v z => by rw [di] at z; cases z⟩)
      refine thnF (pg.run _ _ _ _ xs[k] u (fun σ' H' => σ' = (L2.wipe σ [i]).set i (some xs[k]) ∧ H' = HK k) I6' ru ⟨rfl, rfl⟩) fun _ s8 ⟨σ8, H8, I8, e8, e9⟩ => ?_
      subst e8
      rw [e9] at I8
      refine wpAny_mono (show wpAny (model X.prog X.w) X.A (forIn [] true _) (fun ok s₃ => ok = true ∧ s₃ = s8) _ s8 from wpAny_pure ⟨rfl, rfl⟩) (fun okk s9 ⟨e1, e2⟩ => ?_) fun _ _ z => z
      subst e1
      subst e2
      rw [if_pos rfl]
      refine thnF (pe.run _ s9 _ _ (fun z H'' => z = f xs[k] ∧ H'' = HK k) I8 (hf xs[k] (List.getElem_mem lt) _ _ (by rw [List.getElem?_set_self (by rw [lens]; exact hi)]))) fun z s10 ⟨zv, H10, I10, r10, e11, e12⟩ => ?_
      subst e11
      rw [e12] at I10
      have atD : HK k D = some (.lst ((xs.take k).map f)) := upd_same
      refine app_ok (X := X.blk s3 H3 scope ce [it]) I10 atD (by rw [List.length_map, List.length_take]; omega) r10 fun s11 I11 => ⟨xs.length - (k + 1), by omega, k + 1, rfl, lt, ?_, ?_⟩
      · have eH : upd (HK k) D (.lst ((xs.take k).map f ++ [f xs[k]])) = HK (k + 1) := by
          show upd (upd H1 D _) D _ = upd H1 D _
          have e1 : (xs.take (k + 1)).map f = (xs.take k).map f ++ [f xs[k]] := by rw [List.take_succ, ek, List.map_append]; rfl
          rw [e1]
          funext b
          unfold upd
          split <;> rfl
        rw [eH] at I11
        refine (I11.unpinned (pins := [])).weak (by rw [List.length_set]) fun j v e => ?_
        by_cases q : i = j
        · subst q
          have : (L2.wipe σ [i])[i]? = some none := by
            show (σ.set i none)[i]? = some none
            rw [List.getElem?_set_self hi]
          rw [this] at e
          cases e
        · rw [List.getElem?_set_ne q]
          exact e
      · have pinned := I11.pin (it, oi) (List.mem_append_right _ (List.mem_append_right _ (mem_pinsAt (by simp) ei)))
        exact ⟨oi, pinned.1, ci, di⟩
    · have e : k = xs.length := by omega
      refine list_end (hotAt I5) pit st5 pl5.isList (by simp; omega) fun h' eb => ?_
      have I6 : Inv (X.blk s3 H3 scope ce [it]) [] (L2.wipe σ [i]) (HK k) { s5 with heap := h' } := I5.turned (t' := s5.toks) (fun b o hb e => eb b o hb e) g0 g1 g3 g4 g5
      have I7 : Inv X pins σ (HK k) { s5 with heap := h' } := I3.call' (ch := [it]) I6.os I6.base I6.hok I6.bare fun b hb => ⟨(f3 b hb).1.2.2.2.1, (f3 b hb).1.2.1, (f3 b hb).1.2.2.2.2.1, (f3 b hb).1.2.2.2.2.2⟩
      have nC : HK k s3.heap.objs.size = none := by
        have z : HK k ce.locals = none := I6.free
        rw [cL] at z
        exact z
      obtain ⟨m, hn, _⟩ := I6.loc
      have hn : ({ s5 with heap := h' } : Shared).heap.Ns ce.locals m := hn
      rw [cL] at hn
      obtain ⟨c0, c1, c2, c3, c4, c5⟩ := I3.fpOk (H' := HK k) (Nat.le_refl _) nC
      refine ⟨m, hn, fun h'' sb => ⟨.ref D, HK k, I7.turned (t' := s5.toks) (fun b o hb e => (sb.2 b hb).trans e) c0 c1 c3 c4 c5, rfl, ?_⟩⟩
      have z := fin D nD
      rw [← List.take_of_length_le (Nat.le_of_eq e.symm)] at z
      exact z
  exact codeAny_compStart_list loop (wpAny_pyIter_listiter st4 loop)
end
end DLH
end
section
set_option linter.all false
set_option maxRecDepth 100000
set_option maxHeartbeats 4000000
set_option autoImplicit false
namespace DL
open PySem L2 PySem.Spec PyProof.Rows HotX L2H
/-! ### facts of the exception classes -/
def excB (K : PySem.W.Frag) (x : Str) : Bool :=
  let D := He.ga K x
  He.eqO (PySem.W.findIn K (.ref D) "__getattribute__") (some (some (.builtin "BaseException.__getattribute__"))) && (He.eqO (PySem.W.findIn K (.ref D) "__getattr__") (some none) && (decide (PySem.W.subIn K (.ref D) (.type "BaseException") = some true) && (PySem.W.hasDictIn K D &&
    (He.eqO (PySem.W.findIn K (.ref D) "__class__") (some (some (.builtin "object.__class__"))) && (He.eqO (PySem.W.specialIn K (.builtin "object.__class__") "__get__") (some (some (.builtin "getset_descriptor.__get__"))) && (decide (PySem.W.takesIn K (.builtin "object.__class__") = some true) && decide (PySem.W.mroIn K D (.type "object") = some true)))))))
theorem excB_ok {K : PySem.W.Frag} {x : Str} (h : excB K x = true) : ExcC K (He.ga K x) := by
  obtain ⟨h1, h⟩ := He.ba h
  obtain ⟨h2, h⟩ := He.ba h
  obtain ⟨h3, h⟩ := He.ba h
  obtain ⟨h4, h⟩ := He.ba h
  obtain ⟨h5, h⟩ := He.ba h
  obtain ⟨h6, h⟩ := He.ba h
  obtain ⟨h7, h8⟩ := He.ba h
  exact ⟨He.eqO_ok h1, He.eqO_ok h2, of_decide_eq_true h3, h4, He.eqO_ok h5, He.eqO_ok h6, of_decide_eq_true h7, of_decide_eq_true h8⟩
/-- isinstance of an exception of the class x -/
def kitsB (K : PySem.W.Frag) (x : Str) (ys : List Str) : Bool := (ys.all fun y => decide (PySem.W.kitOne K (.ref (He.ga K x)) (.ref (He.ga K y)) = some (decide (x = y)))) && decide (PySem.W.kitOne K (.ref (He.ga K x)) (.type "ValueError") = some true)
/-- all of it, for the classes xs; each is caught by the class sup -/
def excsB (xs : List Str) (sup : Str) (K : PySem.W.Frag) : Bool := xs.all fun x => excB K x && (kitsB K x xs && decide (PySem.W.exmOne K (.ref (He.ga K x)) (.ref (He.ga K sup)) = some true))
structure ExcsF (xs : List Str) (sup : Str) (K : PySem.W.Frag) (mg : Str → Option Value) : Prop where
  cls : ∀ x ∈ xs, ExcC K (He.ga K x)
  kit : ∀ x ∈ xs, ∀ y ∈ xs, PySem.W.kitOne K (.ref (He.ga K x)) (.ref (He.ga K y)) = some (decide (x = y))
  val : ∀ x ∈ xs, PySem.W.kitOne K (.ref (He.ga K x)) (.type "ValueError") = some true
  sup : ∀ x ∈ xs, PySem.W.exmOne K (.ref (He.ga K x)) (.ref (He.ga K sup)) = some true
theorem excsB_ok {xs : List Str} {sup : Str} {K : PySem.W.Frag} {mg : Str → Option Value} (h : excsB xs sup K = true) : ExcsF xs sup K mg := by
  have at_ : ∀ x ∈ xs, excB K x = true ∧ kitsB K x xs = true ∧ PySem.W.exmOne K (.ref (He.ga K x)) (.ref (He.ga K sup)) = some true := fun x hx => by
    obtain ⟨a, b⟩ := He.ba (List.all_eq_true.mp h x hx)
    obtain ⟨b, c⟩ := He.ba b
    exact ⟨a, b, of_decide_eq_true c⟩
  refine ⟨fun x hx => excB_ok (at_ x hx).1, fun x hx y hy => ?_, fun x hx => ?_, fun x hx => (at_ x hx).2.2⟩
  · exact of_decide_eq_true (List.all_eq_true.mp (He.ba (at_ x hx).2.1).1 y hy)
  · exact of_decide_eq_true (He.ba (at_ x hx).2.1).2
/-! ### the word for an exception -/
/-- slot i holds the exception; what isinstance says of it -/
def mIsE (i : Nat) (b : Bool) : ME := fun sl => match sl[i]? with
  | some (.thk _) => .ok (.dat (.bl b)) sl
  | _ => .bad
/-- the exception at a -/
def Gx.at (G : Gx) (a : Addr) : Gx := { G with TP := fun _ f _ => f = a, tp := fun _ _ _ _ _ h => h }
def opInts : D → Option Rv
  | .lst ds => (bools? ds).map fun bs => .new (.lst (bs.map fun b => .int (if b then 1 else 0)))
  | _ => none
section
variable {X : Cx} {G : Gx} {W : WX} {H0 F0 H F H1 F1 : Hp} {sl sl1 : Sl} {σ : L2.St}
theorem call_isP {a D : Addr} {oe : Obj} (C : ExcC X.K D) (hp : (a, oe) ∈ X.pn) (hz : Zc (.ref D) none oe) (hf : ∃ vs, oe.data = .fields vs) : CallR X (.builtin "isinstance") (rIsE X.K D a) := by
  intro pins s σ H xs us Q I r h
  obtain ⟨c, cv, b, rfl, hcv, e, q⟩ := h
  obtain ⟨u, v, rfl, rx, rt⟩ := Vals.two r
  cases rx
  have ec := hcv _ rt
  subst ec
  obtain ⟨hget, _⟩ := I.pin (a, oe) (List.mem_append_left _ hp)
  obtain ⟨vs, hv⟩ := hf
  have J : PySem.W.InstAt s.heap a oe D none := by
    obtain ⟨oc, od, oda, osl⟩ := oe
    obtain ⟨z1, z2⟩ := hz
    dsimp only at z1 z2 hv
    subst z1 z2 hv
    exact ⟨hget, rfl, rfl, trivial⟩
  exact PySem.W.kia_one (PySem.W.handS_kitx_exc C.hg C.hk C.hs C.hd C.ha C.hn C.ht C.hm) I.kIn J e (fun z => nomatch z) fun tk => ⟨.bl b, H, I.kept (t' := tk) fun _ _ z => z, rfl, q⟩
theorem de_isE {a D : Addr} {oe : Obj} {i : Nat} {b : Bool} {x : Str} {e c : Expr} {cv : V} {cu : Value} {p pos : Pos} (hx : x = "isinstance") (C : ExcC X.K D) (hp : (a, oe) ∈ X.pn) (hz : Zc (.ref D) none oe) (hf : ∃ vs, oe.data = .fields vs) (hg : Gl X x) (hm : X.mg x = none) (he : PE X e (tVar i)) (hc : PE X c (tC cv)) (hcv : ∀ u, RelV cv u → u = cu) (hk : PySem.W.kitOne X.K (.ref D) cu = some b)
    (hst : starEach [e, c] X.env = (false, eval e X.env) :: starEach [c] X.env := by rfl) (hst2 : starEach [c] X.env = (false, eval c X.env) :: starEach [] X.env := by rfl) (hpl : (backTo pos (starEach [c] X.env)).any (·.1) = false := by rfl) : DE X (G.at a) W (.Call (.Name x p) [e, c] [] pos) (mIsE i b) := by
  subst hx
  refine (pe_callB (call_isP C hp hz hf) hg hm PyProof.Rows.boot_isinstance (pa_cons he (pa_cons hc pa_nil hst2) hst) (he := hst) (hpl := hpl)).mono fun σ H Q ⟨H0, F0, F, sl, S, q⟩ => ?_
  unfold mIsE at q
  split at q
  · rename_i r e1
    obtain ⟨f, e2, e3⟩ := S.rel i _ e1
    have e3 : f = a := e3
    subst e3
    exact ⟨_, e2, cv, cu, b, rfl, hcv, hk, q _ H F S (Same.refl F) rfl⟩
  · exact q.elim
theorem pe_gref {x : Str} {a : Addr} {pos : Pos} (hg : Gl X x) (hm : X.mg x = some (.ref a)) (hdb : (x == ("__debug__" : Str)) = false := by decide) : PE X (.Name x pos) (tC (.ref a)) :=
  ⟨fun _ _ _ H _ I h => ld_glob I hg hm ⟨.ref a, H, I, rfl, h⟩ hdb⟩
theorem k_sumH (hK : X.K = G.K) (hot : HotC X) : ∃ r, CallR X (.builtin "sum") r ∧ OpNOk G r opSum := by
  refine ⟨rSum X.K, fun pins s σ H vs us Q I r h => ?_, fun H F ds vs z Q sF tb p e k => ?_⟩
  · obtain ⟨a, ns, rfl, hs, q⟩ := h
    obtain ⟨its, rv, hl, _⟩ := I.list hs
    rw [Vals.ref1 r]
    obtain ⟨x1, h1⟩ := hot.at I
    exact DLH.sumHot h1 hl.isList rv.ints fun h' tk t' hk => ⟨.int _, H, I.kept hk, ⟨_, rfl⟩, q⟩
  · rw [hK]
    unfold opSum at e
    split at e
    · obtain ⟨bs, e1, e2⟩ := Option.map_eq_some_iff.mp e
      subst e2
      obtain ⟨v, rfl, pk⟩ := one_peek p
      obtain ⟨_, a, vs, rfl, ea, r⟩ := pk.lst sF
      exact ⟨a, bs, rfl, SqL.of (by rw [← ints_ok r e1]; exact ea), k _ H F (GrowT.refl sF) rfl⟩
    · cases e
theorem bools_reps {K : PySem.W.Frag} {F : Hp} : ∀ {ds : List D} {vs : List V} {bs : List Bool}, Reps K F ds vs → bools? ds = some bs → vs = bs.map V.bl
  | [], vs, ns, r, e => by cases e; simpa [Reps] using r
  | d :: ds, vs, ns, r, e => by
    unfold bools? at e
    split at e
    · rename_i e0; cases e0
    · rename_i b ds' e0
      cases e0
      obtain ⟨bs, e1, e2⟩ := Option.map_eq_some_iff.mp e
      subst e2
      simp only [Reps] at r
      obtain ⟨v, ws, rfl, r1, r2⟩ := r
      rw [bools_reps r2 e1, show v = V.bl b from r1]
      rfl
    · cases e
theorem reps_ints' {K : PySem.W.Frag} {F : Hp} : ∀ bs : List Bool, Reps K F (bs.map fun b => D.int (if b then 1 else 0)) (bs.map fun b => V.int (if b then 1 else 0))
  | [] => rfl
  | b :: bs => ⟨_, _, rfl, rfl, reps_ints' bs⟩
/-- [int(y) for y in x], x's flags, where an exception is handled -/
theorem de_lcInt {iter : Expr} {m : ME} {y : Str} {py p1 p2 p3 pos : Pos} {scope : Scope} {i : Nat} (hK : X.K = G.K) (hot : HotC X) (hN : X.N.Nodup) (hil : i < X.N.length) (hl : DE X G W iter m) (ok : BlkOk X.N X.env.scope scope [(y, i)])
    (hg : ∀ (s : Shared) (H : Hp) (C : Addr) (cl : List (Str × Addr)) (fp : List Addr), PG (X.blk s H scope (compEnvC scope cl C X.env) fp) (.Name y py) (gName i))
    (he : ∀ (s : Shared) (H : Hp) (C : Addr) (cl : List (Str × Addr)) (fp : List Addr), PE (X.blk s H scope (compEnvC scope cl C X.env) fp) (.Call (.Name "int" p1) [.Name y p2] [] p3) (fun σ H Q => tVar i σ H fun v H1 => ∃ b, v = .bl b ∧ Q (.int (if b then 1 else 0)) H1)) (hs : ∀ x, foldedSetIterable iter X.env x = pure x := by intro _; rfl)
    (hlen : ∀ {pins : List (Addr × Obj)} {σ : L2.St} {H : Hp} {s : Shared}, Inv X pins σ H s → i < σ.length) :
    DE X G W (.ListComp (.Call (.Name "int" p1) [.Name y p2] [] p3) [⟨.Name y py, iter, [], 0⟩] scope pos) (mUn opInts m) := by
  refine ⟨fun pins s σ H Q I q => ?_⟩
  have hi := hlen I
  refine (DLH.pe_lcH hot hN hl ok hg he hs).run pins s σ H Q I ?_
  refine te_un (r := fun v H1 Q => ∃ a xs, v = .ref a ∧ SqL X.K H1 a xs ∧ i < σ.length ∧ ∃ f : V → V, (∀ x ∈ xs, ∀ (σ' : L2.St) (H' : Hp), σ'[i]? = some (some x) → (fun (σ : L2.St) (H : Hp) (Q : VK) => tVar i σ H fun v H1 => ∃ b, v = .bl b ∧ Q (.int (if b then 1 else 0)) H1) σ' H' fun z H'' => z = f x ∧ H'' = H') ∧
      xs.length ≤ sizeLine ∧ ∀ D, H1 D = none → Q (.ref D) (upd H1 D (.lst (xs.map f)))) (fun H F x v z Q sF tb px e k => ?_) q
  unfold opInts at e
  split at e
  · obtain ⟨bs, e1, e2⟩ := Option.map_eq_some_iff.mp e
    subst e2
    obtain ⟨hz, a, vs, rfl, ea, r⟩ := px.lst sF
    have hl := r.length
    have ev := bools_reps r e1
    subst ev
    have hb : bs.length ≤ sizeLine := by
      rw [List.length_map] at hl
      rw [hl]
      exact hz
    refine ⟨a, _, rfl, SqL.of ea, hi, fun v => match v with
      | .bl b => .int (if b then 1 else 0)
      | v => v, fun x hx σ' H' hs => ?_, by rw [List.length_map]; exact hb, fun D hD => ?_⟩
    · obtain ⟨b, _, rfl⟩ := List.mem_map.mp hx
      exact ⟨_, hs, b, rfl, rfl, rfl⟩
    · refine k _ _ F (GrowT.alloc sF _ hD) ⟨D, rfl, notF sF hD, hD, by rw [List.length_map]; exact hb, _, upd_same, ?_⟩
      rw [List.map_map]
      exact reps_ints' bs
  · cases e
end
end DL
end
section
set_option linter.all false
set_option maxRecDepth 100000
set_option maxHeartbeats 4000000
set_option autoImplicit false
namespace DL
open PySem L2 PySem.Spec PyProof.Rows HotX L2H
/-- a def run where the exception p is handled -/
theorem hot_run {CX : CXT} {P : Program} {w : World} {K : PySem.W.Frag} {mg : Str → Option Value} {base : Heap} {k : Nat} {f : Addr} {fd : FuncData} {x qual : Str} {st : Stmt} {N ps : List Str} (Fd : FunD K x qual (defArgs st) (defBody st) (defScope st) [] [] f fd) (S : FnScope N ps (defScope st))
    {A : Around} {outer : List Env} {s : Shared} {H : Hp} {args : Args} {us : List Value} {vs : List V} {Q : VK} {E : XK} {p : Addr × Obj} (hr : RoomH (k + 1) A) (hpin : PinOk outer H s p) (e0 : Env0 P w K mg base A outer s H) (hb : BindsTo s fd args (ps.zip us)) (r : Vals vs us) (hl : vs.length = ps.length)
    (body : ∀ cdv : Value, RoomH k (A.deeper (envOfC qual (defScope st) s.heap.objs.size f cdv)) → ∃ t, PSs (cxH CX P w K mg base N qual (defScope st) f cdv A outer s H E p) (defBody st) t ∧ t { nx := fun _ H' => Q .non H', rt := Q } (L2.start N vs) H) :
    codeAny (model P w) A (.call (.ref f) args) (CR CX outer P w H s Q E) s := by
  obtain ⟨oc, od, dV, kV, doc, pm, an, cdv, ct, osl, rfl, lk, hcd, _, _⟩ := Fd.ex
  have kx : K.In s.heap := e0.mod.kin.keeps fun b o e => (e0.bs b o e).1
  have lim : s.heap.NoLimit := e0.mod.nolimit.keeps fun b o e => (e0.bs b o e).1
  have kinds : ∀ y ∈ ps.zip us, (defScope st).names.lookup y.1 = some .local ∨ ((defScope st).names.lookup y.1 = some .cell ∧ ((cellsFrom (s.heap.objs.size + 1) (defScope st).names []).lookup y.1).isSome = true) := fun ⟨n, v⟩ hy => by
    rcases S.par n (List.of_mem_zip hy).1 with q | q
    · exact .inl q
    · exact .inr ⟨q, PySem.W.cellsFrom_some _ _ _ (.inl q)⟩
  refine codeAny_call_function hr.depth (kx _ _ lk) rfl S.co S.gen rfl (PySem.W.codeRec_of kx hcd) (hb _ _ _ _ (wpAny_newFunctionEnv_cells S.kind kinds fun env he s1 z => ?_))
  subst he
  refine ⟨lim.keeps z.toInCall.keep, codeAny_func ?_⟩
  obtain ⟨t, ht, hq⟩ := body cdv (hr.deeper _)
  have I : Inv (cxH CX P w K mg base N qual (defScope st) f cdv A outer s H E p) [] (L2.start N vs) H s1 := inv_startH S hpin e0 hl r z
  refine wpAny_mono (ht.run [] s1 (L2.start N vs) H _ I hq) (fun fl s' hs => ?_) fun e s' hs => hs
  cases fl with
  | ret u => obtain ⟨v, σ', H', J, rv, q⟩ := hs; exact ⟨v, H', J.os, J.bare, J.base, J.hok, rv, q⟩
  | next => obtain ⟨σ', H', J, q⟩ := hs; exact ⟨V.non, H', J.os, J.bare, J.base, J.hok, rfl, q⟩
  | brk => obtain ⟨_, _, _, q⟩ := hs; exact q.elim
  | cont => obtain ⟨_, _, _, q⟩ := hs; exact q.elim
/-- the def x tells the word of an exception of a class of xs, where that one is handled -/
structure WordF (P : Program) (w : World) (mg : Str → Option Value) (base : Heap) (G : Gx) (k : Nat) (x : Str) (xs : List Str) : Prop where
  ex : ∃ f fd a, mg x = some (.ref f) ∧ PySem.W.keepIn G.K (.ref f) = true ∧ Binds G.K fd [a] [] ∧ ∀ c ∈ xs, ∀ (A : Around) (outer : List Env) (s : Shared) (H F : Hp) (args : Args) (Q : VK) (E : XK) (p : Addr × Obj), RoomH k A → Hot1 A p → PinOk outer H s p → Zc (.ref (He.ga G.K c)) none p.2 →
    Env0 P w G.K mg base A outer s H → BindsTo s fd args [(a, .ref p.1)] → Same F H → LamX.Tabs G.T H → (∀ p ∈ G.T, F p.1 = none) → (∀ H' F', GrowT G F H F' H' → LamX.Tabs G.T H' → Q (.str c) H') → codeAny (model P w) A (.call (.ref f) args) (CR (L2N.CX P w) outer P w H s Q E) s
section
variable {G : Gx} {fa : List He.Fa} {fn : List He.DefD} {mg : Str → Option Value}
theorem wordF_mk {P : Program} {w : World} {base : Heap} {x a : Str} {st : Stmt} {N : List Str} {k : Nat} {xs : List Str} {m : Str → MS} (V : HF fa fn G mg) (i j : Nat) (S : FnScope N [a] (defScope st)) (hN : 1 ≤ N.length)
    (hb : ∀ (kV doc pm : Value) (an : Option Addr) (cdv ct : Value) (us : List Value), us.length = [a].length → bindArgs (PySem.W.fnOf x x (defArgs st) (defBody st) (defScope st) .none kV doc pm an cdv ct) ⟨us, []⟩ = pure ([a].zip us))
    (ev : ∀ c ∈ xs, runFn N.length (m c) [.t (.ret .non false)] = .ret (.str c) false)
    (body : ∀ (f : Addr) (cdv : Value) (A : Around) (outer : List Env) (s : Shared) (H : Hp) (E : XK) (p : Addr × Obj) (c : Str), c ∈ xs → Zc (.ref (He.ga G.K c)) none p.2 → (∃ vs, p.2.data = .fields vs) → Hot1 A p → RoomH k (A.deeper (envOfC x (defScope st) s.heap.objs.size f cdv)) →
      DSs (cxH (L2N.CX P w) P w G.K mg base N x (defScope st) f cdv A outer s H E p) (G.at p.1) (fun cls d _ H => E cls d H) (defBody st) (m c))
    (hd : fn[i]? = some ⟨(x, none), x, x, defArgs st, defBody st, defScope st, [], []⟩ := by rfl) (hj : fa[j]? = some (.glo x) := by rfl) : WordF P w mg base G (k + 1) x xs := by
  obtain ⟨fd, Fd⟩ := V.c.def_ i hd
  refine ⟨_, fd, a, V.glo j hj, Fd.kp, Fd.bindsN hb, fun c hc A outer s H F args Q E p hr hot hpin hz e0 hbt sF tb nt q => ?_⟩
  refine hot_run (us := [.ref p.1]) (vs := [.ref p.1]) Fd S hr hpin e0 hbt (.cons rfl .nil) rfl fun cdv hr' => ?_
  have hf : ∃ vs, p.2.data = .fields vs := let ⟨_, vs, e, _⟩ := hot; ⟨vs, e⟩
  refine ⟨_, body _ cdv A outer s H E p c hc hz hf hot hr', ?_⟩
  have p1 : Paired (ArgOk (G.at p.1) F) [.t (.ret .non false)] [L2.V.ref p.1] := .cons ⟨p.1, rfl, rfl⟩ .nil
  refine ⟨H, F, F, _, sr_start (G := G.at p.1) sF tb nt p1 hN, ?_⟩
  have e1 := ev c hc
  unfold runFn at e1
  show SPost (G.at p.1) _ H F F _ (m c (startSl N.length [.t (.ret .non false)]))
  unfold startSl
  generalize m c (([.t (.ret .non false)] : List Arg).map Slot.ofArg ++ List.replicate (N.length - ([.t (.ret .non false)] : List Arg).length) .no) = o at e1 ⊢
  cases o with
  | rt d fr =>
    cases e1
    exact fun v H' F' gr tb' R => by
      have R : v = .str c := R
      rw [R]
      exact q H' F' gr tb'
  | nx sl => cases e1
  | bk sl => cases e1
  | ct sl => cases e1
  | exc c sl => cases e1
  | bad => cases e1
end
/-! ### told: try: return x() / except sup as e: return word(e) -/
/-- what a thunk does: called from any frames -/
def TPc (P : Program) (w : World) (mg : Str → Option Value) (base : Heap) (K : PySem.W.Frag) (T : List (Addr × Str)) (k : Nat) : Hp → Addr → Res → Prop := fun F f r =>
  ∀ F', Same F F' → ∀ (G : Gx), G.K = K → G.T = T → ∀ (A : Around) (outer : List Env) (s : Shared) (H : Hp) (Q : VK) (E : XK), Room k A → Env0 P w K mg base A outer s H → Same F' H → LamX.Tabs T H → (∀ p ∈ T, F' p.1 = none) → RPost G F' H Q E r → codeAny (model P w) A (.call (.ref f) ⟨[], []⟩) (CR (L2N.CX P w) outer P w H s Q E) s
end DL
end
section
set_option linter.all false
set_option maxRecDepth 100000
set_option maxHeartbeats 4000000
set_option autoImplicit false
namespace DL
open PySem L2 PySem.Spec PyProof.Rows HotX L2H
theorem GrowT.trans {G : Gx} {F0 H0 F1 H1 F2 H2 : Hp} (g : GrowT G F0 H0 F1 H1) (k : GrowT G F1 H1 F2 H2) : GrowT G F0 H0 F2 H2 := ⟨g.1.trans k.1, fun t => k.2 (g.2 t)⟩
/-- an object as it is -/
def ExO (a : Addr) (ob : Obj) : HO := .ext fun h => h.get? a = some ob
abbrev fnObj (fd : FuncData) : Obj := { cls := .type "function", data := .func fd }
/-- a thunk: a function object whose call does r -/
def TPf (P : Program) (w : World) (mg : Str → Option Value) (base : Heap) (K : PySem.W.Frag) (T : List (Addr × Str)) (k : Nat) : Hp → Addr → Res → Prop := fun F f r => (∃ fd, F f = some (ExO f (fnObj fd))) ∧ TPc P w mg base K T k F f r
theorem tpf_mono {P : Program} {w : World} {mg : Str → Option Value} {base : Heap} {K : PySem.W.Frag} {T : List (Addr × Str)} {k : Nat} (F F' : Hp) (f : Addr) (r : Res) (s : Same F F') (h : TPf P w mg base K T k F f r) : TPf P w mg base K T k F' f r :=
  ⟨let ⟨fd, e⟩ := h.1; ⟨fd, s _ _ e⟩, fun F2 s2 => h.2 F2 (s.trans s2)⟩
/-- a program's Gx, thunks called with the room k -/
def gxOf (P : Program) (w : World) (mg : Str → Option Value) (base : Heap) (K : PySem.W.Frag) (T : List (Addr × Str)) (k : Nat) : Gx where
  K := K
  T := T
  TP := TPf P w mg base K T k
  LO := fun _ _ _ => False
  tp := tpf_mono
  lo := fun _ _ _ _ _ h => h
def mThk2 (i : Nat) : ME := fun sl => match sl[i]? with
  | some (.thk r) => r.out sl
  | _ => .bad
/-- slot i's thunk called; an error of the classes xs becomes its word -/
def msTold (xs : List Str) (i j : Nat) : MS := fun sl => match sl[i]? with
  | some (.thk (.ret d fr)) => .rt d fr
  | some (.thk (.exc c)) => if c ∈ xs ∧ j < sl.length then .rt (.str c) false else .bad
  | _ => .bad
section
variable {X : Cx} {G : Gx} {W : WX} {H0 F0 H F H1 F1 : Hp} {sl sl1 : Sl} {σ : L2.St}
theorem exO_at {P : Program} {w : World} {h : Heap} {a : Addr} {ob : Obj} (ok : HOk P w H h) (e : H a = some (ExO a ob)) : h.get? a = some ob := (ok a _ e).1
theorem de_thk {k i : Nat} {a : Str} {p1 p2 : Pos} (hK : X.K = G.K) (hTP : G.TP = TPf X.prog X.w X.mg X.base X.K G.T k) (hr : Room k X.A) (tk : L2N.Takes X W) (hv : PE X (.Name a p1) (tVar i)) : DE X G W (.Call (.Name a p1) [] [] p2) (mThk2 i) := by
  refine ⟨fun pins s σ H Q I ⟨H0, F0, F, sl, S, q⟩ => ?_⟩
  unfold mThk2 at q
  split at q
  · rename_i r e
    obtain ⟨f, e1, tp⟩ := S.rel i _ e
    rw [hTP] at tp
    obtain ⟨⟨fd, ef⟩, tp⟩ := tp
    refine wpAny_Call_Name_kw (thn (hv.run pins s σ H (fun v H1 => v = .ref f ∧ H1 = H) I ⟨_, e1, rfl, rfl⟩) fun u s1 ⟨v, H1, I1, r1, ev, eH⟩ => ?_)
    subst ev
    rw [eH] at I1
    obtain rfl : u = Value.ref f := r1
    have of1 := exO_at I1.hok (S.sub _ _ ef)
    refine PySem.W.callWith_F0 ⟨_, _, _, _, of1⟩ ?_
    have post : RPost G F H Q (WE W σ) r := by
      cases r with
      | bad => exact q
      | exc c => exact fun H' F' gr tb => q H' F' (S.to gr.1 tb) gr.1.fsub
      | ret d fr =>
        intro v H' F' gr tb R
        cases fr with
        | true => exact EPost.op S q gr R
        | false => exact EPost.op S q gr R
    refine wpAny_call (codeAny_mono (tp F (Same.refl F) G hK.symm rfl X.A X.stack s1 H Q (WE W σ) hr I1.env0 S.sub S.tabs S.nt post) fun r' s' hq => ?_)
    cases r' with
    | error e => exact L2N.passAt tk σ pins H s1 e s' I1 hq
    | ok fl =>
      cases fl with
      | ret u => exact I1.after hq
      | next => exact False.elim hq
      | brk => exact False.elim hq
      | cont => exact False.elim hq
  · exact q.elim
theorem roomH_mark {k : Nat} {A : Around} {v : Option Value} (r : Room k A) : RoomH k (A.mark v) := ⟨r.dp, r.un⟩
/-- word(n) in the suite -/
theorem pe_word {kw j : Nat} {n wd : Str} {xs : List Str} {p5 p6 p7 : Pos} {ad : Addr} {oe : Obj} {pn : List (Addr × Obj)} {c : Str} (hK : X.K = G.K) (hw : WordF X.prog X.w X.mg X.base G kw wd xs) (hr : Room kw X.A) (hc : c ∈ xs) (hz : L2N.Zn (.ref (He.ga G.K c)) none oe) (hf : ∃ vs, oe.data = .fields vs)
    (hg : Gl X wd) (hv2 : PE (X.suite ad ((ad, oe) :: pn)) (.Name n p5) (tVar j)) (hdw : (wd == ("__debug__" : Str)) = false := by decide) (hst : starEach [.Name n p5] X.env = (false, eval (.Name n p5) X.env) :: starEach [] X.env := by rfl) :
    PE (X.suite ad ((ad, oe) :: pn)) (.Call (.Name wd p6) [.Name n p5] [] p7) (fun σ H Q => σ[j]? = some (some (.ref ad)) ∧ ∃ F, Same F H ∧ LamX.Tabs G.T H ∧ (∀ p ∈ G.T, F p.1 = none) ∧ ∀ H' F', GrowT G F H F' H' → LamX.Tabs G.T H' → Q (.str c) H') := by
  obtain ⟨f, fd, a, gm, kp, hb, run⟩ := hw.ex
  refine ⟨fun pins s σ H Q I ⟨e1, F, sF, tb, nt, q⟩ => ?_⟩
  rw [← hK] at kp hb
  refine wpAny_Call_Name_kw (ld_glob I hg gm ?_ hdw)
  refine PySem.W.callWith_K (h₀ := X.base) I.ok.mod.kin kp (thn ((pa_cons hv2 pa_nil hst).run p7 pins s σ H (fun vs H1 => vs = [V.ref ad] ∧ H1 = H) I ⟨_, e1, rfl, rfl⟩) fun us s1 ⟨vs, H1, I1, r, ev, eH⟩ => ⟨I1.kIn, ?_⟩) hst rfl
  subst ev
  subst eH
  have r := Vals.ref1 r
  subst r
  have P1 := I1.pin (ad, oe) (List.mem_append_left _ List.mem_cons_self)
  have hpin : PinOk X.stack H1 s1 (ad, oe) := ⟨P1.1, P1.2.1, fun hm => (List.mem_cons.mp (I1.stkSub ad hm)).elim P1.2.2.1 P1.2.2.2.1, P1.2.2.2.2⟩
  obtain ⟨vs, hvs⟩ := hf
  have hot : Hot1 (X.A.mark (some (.ref ad))) (ad, oe) := ⟨rfl, vs, hvs, hz.2.2 vs hvs⟩
  have bb := hb s1 [.ref ad] I1.kIn rfl
  have e0 : Env0 X.prog X.w X.K X.mg X.base (X.A.mark (some (.ref ad))) X.stack s1 H1 := I1.env0
  rw [hK] at e0
  show wpAny (model X.prog X.w) (X.A.mark (some (.ref ad))) (call (.ref f) [.ref ad]) _ _ s1
  refine wpAny_call (codeAny_mono (run c hc (X.A.mark (some (.ref ad))) X.stack s1 H1 F ⟨[.ref ad], []⟩ Q (fun _ _ _ => False) (ad, oe) (roomH_mark hr) hot hpin hz.zc e0 bb sF tb nt q) fun r' s' hq => ?_)
  cases r' with
  | error e => obtain ⟨_, _, _, _, _, _, _, _, _, _, _, _, z⟩ := hq; exact z.elim
  | ok fl =>
    cases fl with
    | ret u => exact I1.after hq
    | next => exact False.elim hq
    | brk => exact False.elim hq
    | cont => exact False.elim hq
/-- try: return a() / except sup as n: return word(n) -/
theorem ds_told {k kw i j : Nat} {a n sup wd : Str} {xs : List Str} {p1 p2 p3 p4 p5 p6 p7 p8 p9 p10 : Pos} (hK : X.K = G.K) (hTP : G.TP = TPf X.prog X.w X.mg X.base X.K G.T k) (hr : Room k X.A) (hw : WordF X.prog X.w X.mg X.base G kw wd xs) (hkw : kw ≤ k) (hx : ExcsF xs sup G.K X.mg) (tk : L2N.Takes X W)
    (hs : X.stack = X.env :: X.outer) (hf : X.env.frame = some X.env.locals) (hN : X.N.Nodup) (hj : X.N[j]? = some n) (hln : X.env.kindOf n = some .local) (hgs : Gl X sup) (hms : X.mg sup = some (.ref (He.ga G.K sup))) (hgw : Gl X wd)
    (hv : ∀ (pn : List (Addr × Obj)) (xe : Value → Shared → Prop), PE (X.tr pn xe) (.Name a p1) (tVar i)) (hv2 : ∀ (ad : Addr) (pn : List (Addr × Obj)), PE (X.suite ad pn) (.Name n p5) (tVar j)) (hds : (sup == ("__debug__" : Str)) = false := by decide) (hdw : (wd == ("__debug__" : Str)) = false := by decide)
    (hst : starEach [.Name n p5] X.env = (false, eval (.Name n p5) X.env) :: starEach [] X.env := by rfl) :
    DS X G W (.Try [.Return (some (.Call (.Name a p1) [] [] p2)) p3] [.ExceptHandler (some (.Name sup p4)) (some n) [.Return (some (.Call (.Name wd p6) [.Name n p5] [] p7)) p8] p9] [] [] p10) (msTold xs i j) := by
  refine (L2N.ps_try_as (Wout := W) (c := .ref (He.ga G.K sup)) (i := j) (tb := fun W' => TSd G W' (msRet (mThk2 i)))
    (ts := fun ad cls d D σ H => ∃ c ∈ xs, cls = .ref (He.ga G.K c) ∧ d = none ∧ σ[j]? = some (some (.ref ad)) ∧ ∃ F, Same F H ∧ LamX.Tabs G.T H ∧ (∀ p ∈ G.T, F p.1 = none) ∧ ∀ H' F', GrowT G F H F' H' → LamX.Tabs G.T H' → D.rt (.str c) H')
    hs hf hN hj hln ⟨hgs, hds, .inl hms⟩ tk (fun W' pn xe tk' _ => ?_) (fun ad oe cls d pn hz hfv => ?_)).mono fun D σ H ⟨H0, F0, F, sl, S, q⟩ => ?_
  · exact dss_one (ds_ret (de_thk (X := X.tr pn xe) hK hTP hr tk' (hv pn xe)))
  · refine ⟨fun pins s σ H D I h => ?_⟩
    obtain ⟨c, hc, rfl, rfl, e1, F, sF, tb, nt, q⟩ := h
    exact (pss_one (ps_ret (pe_word hK hw (hr.mono hkw) hc hz hfv hgw (hv2 ad _) hdw hst))).run pins s σ H D I ⟨e1, F, sF, tb, nt, q⟩
  · refine ⟨H0, F0, F, sl, S, ?_⟩
    unfold msTold at q
    unfold msRet mThk2
    split at q
    · rename_i d fr e
      simp only [e]
      cases fr with
      | true => exact q
      | false => exact q
    · rename_i c e
      simp only [e]
      split at q
      · rename_i hcj
        obtain ⟨hc, hj'⟩ := hcj
        intro σ' H' F' S' s'
        have hlen : j < σ'.length := by have := S'.len; omega
        rw [hK]
        refine ⟨true, hx.sup c hc, fun _ ad hn => ⟨c, hc, rfl, rfl, by rw [List.getElem?_set_self hlen], F', S'.sub, S'.tabs, S'.nt, fun H2 F2 gr tb => ?_⟩, fun z => nomatch z⟩
        exact q (.str c) H2 F2 (S'.growT.trans gr) tb rfl
      · exact q.elim
    · exact q.elim
end
end DL
end
section
set_option linter.all false
set_option maxRecDepth 100000
set_option maxHeartbeats 4000000
set_option autoImplicit false
namespace DL
open PySem L2 PySem.Spec PyProof.Rows HotX L2H
/-- g of each thunk -/
def resOf (g : Fn) : List Res → Option (List D)
  | [] => some []
  | r :: rs => match g [.t r] with
    | .ret d _ => (resOf g rs).map fun ds => d :: ds
    | _ => none
/-- [g(x) for x in thunks] -/
def mLcThk (i j : Nat) (g : Fn) : ME := fun sl => match sl[j]? with
  | some (.thks rs) => (if i < sl.length then (match resOf g rs with
    | some ds => .ok (.new (.lst ds)) (backSl [i] sl (wipeSl [i] sl))
    | none => .bad) else .bad)
  | _ => .bad
section
variable {X : Cx} {G : Gx} {W : WX} {H0 F0 H F H1 F1 : Hp} {sl sl1 : Sl} {σ : L2.St}
theorem resOf_len {g : Fn} : ∀ {rs : List Res} {ds : List D}, resOf g rs = some ds → ds.length = rs.length
  | [], ds, e => by cases e; rfl
  | r :: rs, ds, e => by
    unfold resOf at e
    split at e
    · obtain ⟨ds', e1, e2⟩ := Option.map_eq_some_iff.mp e
      subst e2
      rw [List.length_cons, List.length_cons, resOf_len e1]
    · cases e
theorem resOf_get {g : Fn} : ∀ {rs : List Res} {ds : List D} {i : Nat} {r : Res}, resOf g rs = some ds → rs[i]? = some r → ∃ d fr, g [.t r] = .ret d fr ∧ ds[i]? = some d
  | [], _, _, _, _, e => by simp at e
  | r :: rs, ds, i, r', e, ei => by
    unfold resOf at e
    split at e
    · rename_i d fr e0
      obtain ⟨ds', e1, e2⟩ := Option.map_eq_some_iff.mp e
      subst e2
      cases i with
      | zero => simp at ei; subst ei; exact ⟨d, fr, e0, rfl⟩
      | succ i =>
        obtain ⟨d', fr', e3, e4⟩ := resOf_get e1 (by simpa using ei)
        exact ⟨d', fr', e3, by simpa using e4⟩
    · cases e
theorem paired_getB {α β : Type} {P : α → β → Prop} : ∀ {l : List α} {m : List β} {i : Nat} {a : α}, Paired P l m → l[i]? = some a → ∃ b, m[i]? = some b ∧ P a b
  | _, _, 0, a, .cons h _, e => by simp at e; subst e; exact ⟨_, rfl, h⟩
  | _, _, i + 1, a, .cons _ t, e => by
    obtain ⟨b, e1, h⟩ := paired_getB t (by simpa using e)
    exact ⟨b, by simpa using e1, h⟩
  | _, _, _, _, .nil, e => by simp at e
theorem de_lcThk {k i j : Nat} {x y dn : Str} {g : Fn} {py p1 p2 p3 p4 pos : Pos} {scope : Scope} (hK : X.K = G.K) (hc : X.calm = true) (h : CallF X.prog X.w X.mg X.base G k x 1 g) (hr : Room k X.A) (hN : X.N.Nodup) (hv : PE X (.Name dn p4) (tVar j)) (ok : BlkOk X.N X.env.scope scope [(y, i)])
    (hg : ∀ (s : Shared) (H : Hp) (C : Addr) (cl : List (Str × Addr)) (fp : List Addr), PG (X.blk s H scope (compEnvC scope cl C X.env) fp) (.Name y py) (gName i))
    (hgl : ∀ (s : Shared) (H : Hp) (C : Addr) (cl : List (Str × Addr)) (fp : List Addr), Gl (X.blk s H scope (compEnvC scope cl C X.env) fp) x)
    (hvy : ∀ (s : Shared) (H : Hp) (C : Addr) (cl : List (Str × Addr)) (fp : List Addr), PE (X.blk s H scope (compEnvC scope cl C X.env) fp) (.Name y p2) (tVar i))
    (hst : ∀ (s : Shared) (H : Hp) (C : Addr) (cl : List (Str × Addr)) (fp : List Addr), starEach [.Name y p2] (X.blk s H scope (compEnvC scope cl C X.env) fp).env = (false, eval (.Name y p2) (X.blk s H scope (compEnvC scope cl C X.env) fp).env) :: starEach [] (X.blk s H scope (compEnvC scope cl C X.env) fp).env := by intros; rfl)
    (hdb : (x == ("__debug__" : Str)) = false := by decide) (hs : ∀ z, foldedSetIterable (.Name dn p4) X.env z = pure z := by intro _; rfl) :
    DE X G W (.ListComp (.Call (.Name x p1) [.Name y p2] [] p3) [⟨.Name y py, .Name dn p4, [], 0⟩] scope pos) (mLcThk i j g) := by
  obtain ⟨f, fd, ps, Fk, gm, kp, b⟩ := h.ex
  rw [← hK] at Fk kp b
  refine (pe_lc (own := [(y, i)]) hc hN (pi_list hv) ok hg (fun _ _ _ _ _ => pts_nil) (fun s H C cl fp => pe_callS (X := X.blk s H scope (compEnvC scope cl C X.env) fp) (E := WE W0) Fk hr (hgl s H C cl fp) gm kp b (L2N.passAt takesN0) (pa_cons (hvy s H C cl fp) pa_nil (hst s H C cl fp)) hdb (hst s H C cl fp) rfl) hs).mono fun σ H Q ⟨H0, F0, F, sl, S, q⟩ => ?_
  unfold mLcThk at q
  split at q
  · rename_i rs e
    split at q
    rotate_left
    · exact q.elim
    rename_i hil0
    cases e1 : resOf g rs with
    | none => rw [e1] at q; exact q.elim
    | some ds =>
      rw [e1] at q
      obtain ⟨a, fs, e2, hz, ea, pp⟩ := S.rel j _ e
      have hil : i < σ.length := by have := S.len; omega
      refine ⟨_, e2, a, rfl, ⟨_, SqL.of (S.sub _ _ ea)⟩, fun Dl hD => ?_⟩
      have f0 : F0 Dl = none := by
        cases z : F0 Dl with
        | none => rfl
        | some o => have := S.sub _ _ (S.grow.fsub _ _ z); rw [hD] at this; cases this
      have lenf : fs.length = rs.length := by
        have go : ∀ {P : Addr → Res → Prop} {l : List Addr} {m : List Res}, Paired P l m → l.length = m.length := by
          intro P l m p
          induction p with
          | nil => rfl
          | cons _ _ ih => rw [List.length_cons, List.length_cons, ih]
        exact go pp
      have lend := resOf_len e1
      refine lc_it (walk_list (K := X.K) (a := a) (xs := fs.map V.ref)) (fun m H' => ∃ F' vs, SR G (upd H0 Dl (.lst vs)) F0 (wipeSl [i] sl) (L2.wipe σ [i]) H' F' ∧ Same F F' ∧ Reps G.K F' (ds.take m) vs) ⟨F, [], S.block hD, Same.refl F, rfl⟩
        (fun m H' hm ⟨F', vs, S', s', _⟩ => SqL.of (S'.sub _ _ (s' _ _ ea))) (fun m x H' H2 hm ⟨F', vs, S', s', ra⟩ y => ?_) fun H' ⟨F', vs, S', s', ra⟩ => ?_
      · obtain ⟨rfl, ex⟩ := y
        rw [List.length_map] at hm
        rw [List.getElem?_map] at ex
        obtain ⟨fx, ef, rfl⟩ := Option.map_eq_some_iff.mp ex
        obtain ⟨r, er, tp⟩ := paired_getB pp ef
        obtain ⟨d, fr, eg, ed⟩ := resOf_get e1 er
        refine ⟨wipe_set (is := [i]) (by simp) |>.trans (wipe_wipe [i] σ), ?_⟩
        unfold tYes
        dsimp only
        rw [if_pos rfl]
        refine ⟨_, by rw [List.getElem?_set_self (by rw [wipe_length]; exact hil)], F', [.t r], rfl, S'.sub, S'.tabs, S'.nt, .cons ⟨fx, rfl, G.tp _ _ _ _ s' tp⟩ .nil, ?_⟩
        rw [eg]
        intro v H3 F3 gr tb R
        have S3 := S'.to gr.1 tb
        have R3 : RvOk G (upd H0 Dl (.lst vs)) H3 F3 (wipeSl [i] sl) (L2.wipe σ [i]) (if fr = true then .new d else .dat d) v := R.rv S' gr.1
        obtain ⟨F4, S4, s4, R4⟩ : ∃ F4, SR G (upd H0 Dl (.lst vs)) F0 (wipeSl [i] sl) (L2.wipe σ [i]) H3 F4 ∧ Same F3 F4 ∧ Rep G.K F4 d v := by
          cases fr with
          | true => exact frz_ok (r := .new d) S3 R3 rfl
          | false => exact frz_ok (r := .dat d) S3 R3 rfl
        have s34 := gr.1.fsub.trans s4
        obtain ⟨hF, hH, S5⟩ := S4.blockApp (ys := vs ++ [v]) f0
        have lv : vs.length = min m ds.length := by rw [ra.length, List.length_take]
        have rsz : rs.length ≤ sizeLine := hz
        refine ⟨vs, hH, by omega, F4, vs ++ [v], S5, s'.trans s34, ?_⟩
        have et : ds.take (m + 1) = ds.take m ++ [d] := by rw [List.take_succ, ed]; rfl
        rw [et]
        exact (Reps.mono s34 _ _ ra).append ⟨v, [], rfl, R4, rfl⟩
      · rw [List.length_map, List.take_of_length_le (by omega)] at ra
        have rsz : rs.length ≤ sizeLine := hz
        obtain ⟨S9, R9⟩ := SR.unblock (sl1 := sl) (own := [i]) S S' hD (by rw [lend]; exact hz) ra s'
        exact q _ H' F' S9 s' R9
  · exact q.elim
end
end DL
end
section
set_option linter.all false
set_option maxRecDepth 100000
set_option maxHeartbeats 4000000
set_option autoImplicit false
namespace DL
open PySem L2 PySem.Spec PyProof.Rows HotX L2H LamX
/-! ### a lambda is made -/
/-- all stays but tables, which stay tables -/
def ExtG (H H' : Hp) : Prop := ∀ a o, H a = some o → H' a = some o ∨ ∃ ps qs, o = .tbl ps ∧ H' a = some (.tbl qs)
/-- the function object of a lambda of the frame -/
abbrev lamOb (X : Cx) (params : Arguments) (body : Expr) (scope : Scope) (pm ctv : Value) (c' : Addr) : Obj := fnObj (PySem.W.kla_fn "<lambda>" (X.env.qual ++ "<lambda>") params body scope (cloFrom X.env.cells scope.names []) pm (.ref c') ctv)
section
variable {X : Cx}
theorem pe_lambda {T : List (Addr × Str)} {c P : Addr} {params : Arguments} {body : Expr} {scope : Scope} {pos : Pos} (TB : TabB X.base X.mg c P) (hcode : X.env.code = .ref c) (hm : (P, X.env.qual ++ "<lambda>") ∈ T) (hu : ∀ p ∈ T, p.1 = P → p.2 = X.env.qual ++ "<lambda>") (hdef : defaultsOf params X.env = ([], [])) (L : LamS X.env.scope scope) :
    PE X (.Lambda params body scope pos) (fun σ H Q => Tabs T H ∧ ∀ (f c' : Addr) (pm ctv : Value) (H1 : Hp), ExtG H H1 → Tabs T H1 → H f = none → (∀ y cc, X.env.cells.lookup y = some cc → cc ≠ f ∧ cc ≠ c') → H1 f = some (ExO f (lamOb X params body scope pm ctv c')) → H1 c' = some (CodeO c' (X.env.qual ++ "<lambda>")) →
      (∀ a, H1 a ≠ H a → a = f ∨ a = c' ∨ a = P) → Q (.ref f) H1) := by
  refine ⟨fun pins s σ H Q I ⟨hT, h⟩ => ?_⟩
  obtain ⟨ps, hP, ht, ha⟩ := hT _ hm
  refine PySem.W.kla_eval hdef ?_
  have hP' : s.heap.get? P = some { cls := .none, data := .fields ps } := I.hok P _ hP
  have cellLt : ∀ y cc, X.env.cells.lookup y = some cc → cc < s.heap.objs.size := fun y cc e => by
    obtain ⟨v, q⟩ := I.cell y cc e
    exact q.lt
  have mk : ∀ (H2 : Hp) (h' : Heap) (tk : Nat) (c' : Addr) (pm ctv : Value), Inv X pins σ H2 { s with heap := h', toks := tk } → s.heap.objs.size ≤ h'.objs.size → ExtG H H2 → Tabs T H2 → H2 c' = some (CodeO c' (X.env.qual ++ "<lambda>")) → (∀ a, H2 a ≠ H a → a = c' ∨ a = P) →
      EP X pins σ Q (.ref h'.objs.size) { s with heap := h'.push (lamOb X params body scope pm ctv c'), toks := tk } := fun H2 h' tk c' pm ctv I2 hsz e2 T2 hc d2 => by
    have n2 : H2 h'.objs.size = none := I2.hok.fresh (Nat.le_refl _)
    have n0 : H h'.objs.size = none := I.hok.fresh hsz
    have I3 := I2.laid (a := h'.objs.size) (o := ExO h'.objs.size (lamOb X params body scope pm ctv c')) (h' := h'.push (lamOb X params body scope pm ctv c')) (t' := tk) (fun b o e => Heap.get?_push_of_some _ e) (Nat.le_refl _)
      ⟨Heap.get?_push_size _ rfl, ⟨_, Heap.get?_push_size _ rfl⟩, fun h1 h2 e st => st _ e⟩
    refine ⟨L2.V.ref h'.objs.size, _, I3, rfl, h _ c' pm ctv _ (fun a o e => ?_) (Tabs_alloc T2 n2) n0 (fun y cc e => ⟨Nat.ne_of_lt (Nat.lt_of_lt_of_le (cellLt y cc e) hsz), fun z => ?_⟩) upd_same (by rw [upd_ne (ne_of_none hc n2)]; exact hc) fun a q => ?_⟩
    · rw [upd_ne (fun z => by rw [z, n0] at e; cases e)]
      exact e2 a o e
    · have := I2.freeC y cc e
      rw [z, hc] at this
      cases this
    · by_cases z : a = h'.objs.size
      · exact .inl z
      · rw [upd_ne z] at q
        exact .inr (d2 a q)
  cases hc : codeAmong pos ps.toList with
  | none =>
    refine PySem.W.kla_makeFunction (mg := X.mg) (c := c) (P := P) (ps := ps) (closure_ok (L.has I.ok)) I.ok.glob (I.mod.glob.keeps I.bk) hcode (TB.code.keeps I.bk) hP' ht hc TB.gP (TB.bm.keeps I.bk) fun c' ctv h' tk hx hge hlt hrec htb => ?_
    obtain ⟨c2, oc, vs, t, e2, hoc, hd, hv⟩ := hrec
    cases e2
    have nC : H c' = none := I.hok.fresh hge
    have I1 := inv_table (t' := tk) (more := #[rawInt pos.line, rawInt pos.col, .ref c']) I hP hx htb hge ⟨oc, vs, t, hoc, hd, hv⟩
    refine mk _ h' tk c' ((X.mg "__name__").getD .none) ctv I1 (Nat.le_trans hge (Nat.le_of_lt hlt)) (fun a o e => ?_) (fun p hp => ?_) upd_same fun a q => ?_
    · rw [upd_ne (ne_of_none e nC)]
      by_cases z : a = P
      · subst z
        rw [hP] at e
        cases e
        rw [upd_same]
        exact .inr ⟨_, _, rfl, rfl⟩
      · rw [upd_ne z]; exact .inl e
    · have keep : ∀ b q, H b = some (CodeO b q) → upd (upd H P (.tbl (ps ++ #[rawInt pos.line, rawInt pos.col, .ref c']))) c' (CodeO c' (X.env.qual ++ "<lambda>")) b = some (CodeO b q) := fun b q e => by
        rw [upd_ne (ne_of_none e nC), upd_ne (fun z => by rw [z, hP] at e; exact codeO_ne ps (Option.some.inj e).symm)]
        exact e
      by_cases hb : p.1 = P
      · rw [hu p hp hb, hb]
        have eL : (ps ++ #[rawInt pos.line, rawInt pos.col, .ref c']).toList = ps.toList ++ [rawInt pos.line, rawInt pos.col, .ref c'] := by simp
        refine ⟨_, by rw [upd_ne (ne_of_none hP nC), upd_same], by rw [eL]; exact PySem.TriplesOk_snoc _ _ _ _ ht, fun p' cv hcv => ?_⟩
        rw [eL] at hcv
        rcases among_app _ ht hcv with z | z
        · obtain ⟨c0, e1, e2⟩ := ha p' cv z
          exact ⟨c0, e1, keep _ _ e2⟩
        · exact ⟨c', z, upd_same⟩
      · obtain ⟨ps', a1, a2, a3⟩ := hT p hp
        refine ⟨ps', by rw [upd_ne (ne_of_none a1 nC), upd_ne hb]; exact a1, a2, fun p' cv hcv => ?_⟩
        obtain ⟨c0, e1, e2⟩ := a3 p' cv hcv
        exact ⟨c0, e1, keep _ _ e2⟩
    · by_cases z : a = c'
      · exact .inl z
      · rw [upd_ne z] at q
        by_cases y : a = P
        · exact .inr y
        · rw [upd_ne y] at q; exact absurd rfl q
  | some cv =>
    obtain ⟨c', e, hco⟩ := ha pos cv hc
    subst e
    refine PySem.W.kla_makeFunctionHit (mg := X.mg) (c := c) (P := P) (ps := ps) (closure_ok (L.has I.ok)) I.ok.glob (I.mod.glob.keeps I.bk) hcode (TB.code.keeps I.bk) hP' ht hc (TB.bm.keeps I.bk) fun ctv h' tk hx hsz => ?_
    exact mk H h' tk c' ((X.mg "__name__").getD .none) ctv (I.kept hx) hsz (fun a o e => .inl e) hT hco fun a q => absurd rfl q
end
end DL
end
section
set_option linter.all false
set_option maxRecDepth 100000
set_option maxHeartbeats 4000000
set_option autoImplicit false
namespace DL
open PySem L2 PySem.Spec PyProof.Rows HotX L2H LamX
/-! ### captured cells, out of sight while the body runs -/
def hid (H : Hp) (cl : List Addr) : Hp := fun a => if a ∈ cl then none else H a
def unhid (H H2 : Hp) (cl : List Addr) : Hp := fun a => if a ∈ cl then H a else H2 a
theorem hid_in {H : Hp} {cl : List Addr} {a : Addr} (h : a ∈ cl) : hid H cl a = none := if_pos h
theorem hid_out {H : Hp} {cl : List Addr} {a : Addr} (h : a ∉ cl) : hid H cl a = H a := if_neg h
theorem hid_some {H : Hp} {cl : List Addr} {a : Addr} {o : HO} (e : hid H cl a = some o) : a ∉ cl ∧ H a = some o := by
  unfold hid at e
  split at e
  · cases e
  · rename_i h; exact ⟨h, e⟩
theorem unhid_in {H H2 : Hp} {cl : List Addr} {a : Addr} (h : a ∈ cl) : unhid H H2 cl a = H a := if_pos h
theorem unhid_out {H H2 : Hp} {cl : List Addr} {a : Addr} (h : a ∉ cl) : unhid H H2 cl a = H2 a := if_neg h
section
variable {P : Program} {w : World} {H H2 : Hp} {h h' : Heap} {cl : List Addr}
def Exts (H : Hp) (cl : List Addr) : Prop := ∀ c ∈ cl, ∃ ob, H c = some (ExO c ob)
theorem Exts.ne (x : Exts H cl) {a : Addr} {o : HO} (e : H a = some o) (n : ∀ φ, o ≠ .ext φ) : a ∉ cl := fun hm => by
  obtain ⟨ob, e2⟩ := x a hm
  rw [e] at e2
  exact n _ (Option.some.inj e2)
theorem hok_hid (ok : HOk P w H h) (x : Exts H cl) : HOk P w (hid H cl) h := fun a o e => by
  obtain ⟨_, e2⟩ := hid_some e
  refine (ok a o e2).stay (fun _ _ _ q => q) (fun b q => ?_) (fun b xs q => ?_)
  · rw [hid_out (x.ne q (fun _ z => nomatch z))]; exact q
  · rw [hid_out (x.ne q (fun _ z => nomatch z))]; exact q
theorem hok_unhid (ok : HOk P w H2 h') (x : Exts H cl) (n2 : ∀ c ∈ cl, H2 c = none) (at_ : ∀ c ∈ cl, ∀ ob, H c = some (ExO c ob) → h'.get? c = some ob) : HOk P w (unhid H H2 cl) h' := fun a o e => by
  by_cases hm : a ∈ cl
  · rw [unhid_in hm] at e
    obtain ⟨ob, e2⟩ := x a hm
    have := at_ a hm ob e2
    rw [e2] at e
    cases e
    exact ⟨this, ⟨_, this⟩, fun h1 h2 e st => st _ e⟩
  · rw [unhid_out hm] at e
    have out : ∀ {b : Addr} {o : HO}, H2 b = some o → unhid H H2 cl b = some o := fun {b o} q => by
      rw [unhid_out (fun z => by rw [n2 b z] at q; cases q)]; exact q
    exact (ok a o e).stay (fun _ _ _ q => q) (fun b q => out q) (fun b xs q => out q)
theorem un_unhid {fs : List Addr} (u : Un fs [] (hid H cl) H2 h h') (x : Exts H cl) : Un fs [] H (unhid H H2 cl) h h' := by
  have low : ∀ {b : Addr}, H b = none → hid H cl b = none ∧ b ∉ cl := fun {b} e => by
    have : b ∉ cl := fun hm => by obtain ⟨ob, e2⟩ := x b hm; rw [e] at e2; cases e2
    exact ⟨by rw [hid_out this]; exact e, this⟩
  have up : ∀ {b : Addr} {o : HO}, H b = some o → (∀ φ, o ≠ .ext φ) → hid H cl b = some o ∧ b ∉ cl := fun {b o} e n => by
    have := x.ne e n
    exact ⟨by rw [hid_out this]; exact e, this⟩
  refine ⟨fun b o e n => u.keep b o e (low n).1, fun b o e n => u.slot b o e (low n).1, fun b o e n hx => ?_, u.there, fun b xs e => ?_, fun b o y e => ?_, fun b ps e => ?_⟩
  · rw [unhid_out (low n).2]; exact u.free b o e (low n).1 hx
  · obtain ⟨e2, m⟩ := up e (fun _ z => nomatch z)
    rw [unhid_out m]; exact u.tups b xs e2
  · obtain ⟨e2, m⟩ := up e (fun _ z => nomatch z)
    rw [unhid_out m]; exact u.frzs b o y e2
  · obtain ⟨e2, m⟩ := up e (fun _ z => nomatch z)
    rw [unhid_out m]; exact u.tbls b ps e2
end
/-- the cells that a lambda captures -/
abbrev capt (X : Cx) (scope : Scope) : List Addr := (cloFrom X.env.cells scope.names []).map (·.2)
section
variable {X : Cx} {pins : List (Addr × Obj)} {σ : L2.St} {H : Hp} {s s1 : Shared}
theorem capt_cell {scope : Scope} (L : LamS X.env.scope scope) (ok : X.Ok) {y : Str} {c : Addr} (e : (cloFrom X.env.cells scope.names []).lookup y = some c) : X.env.cells.lookup y = some c := by
  rcases cloFrom_mem (PySem.mem_of_lookup e) with hm | ⟨h1, h2⟩
  · cases hm
  · obtain ⟨c1, hc⟩ := L.has ok _ h1 rfl
    have hc : X.env.cells.lookup y = some c1 := hc
    have e2 : c = c1 := by
      rw [h2, hc] <;> rfl
    rw [e2]
    exact hc
theorem capt_mem {scope : Scope} (L : LamS X.env.scope scope) (ok : X.Ok) {c : Addr} (hm : c ∈ capt X scope) : ∃ y, X.env.cells.lookup y = some c := by
  obtain ⟨⟨y, c'⟩, h1, rfl⟩ := List.mem_map.mp hm
  rcases cloFrom_mem h1 with hm | ⟨h2, h3⟩
  · cases hm
  · obtain ⟨c1, hc⟩ := L.has ok _ h2 rfl
    have hc : X.env.cells.lookup y = some c1 := hc
    refine ⟨y, ?_⟩
    rw [h3, hc] <;> rfl
/-- the body's state, entered from any frames, the captured cells as they were -/
theorem inv_lam {A : Around} {outer : List Env} {E : XK} {scope : Scope} {f c' : Addr} {HC : Hp} {h₁ : Heap} {tk : Nat} (I : Inv X pins σ H s) (L : LamS X.env.scope scope) (e0 : Env0 X.prog X.w X.K X.mg X.base A outer s1 HC) (hd : A.handled = none) (ex : Exts HC (capt X scope))
    (same : ∀ c ∈ capt X scope, ∀ ob, s.heap.get? c = some ob → s1.heap.get? c = some ob) (hns : h₁.Ns s1.heap.objs.size fun y => ([] : List (Str × Value)).reverse.lookup y) (kp : ∀ b o, s1.heap.get? b = some o → h₁.get? b = some o) :
    Inv (lamCx X A outer s1 (hid HC (capt X scope)) E scope f c') [] σ (hid HC (capt X scope)) { s1 with heap := h₁, toks := tk } := by
  have cm : ∀ {y c}, (cloFrom X.env.cells scope.names []).lookup y = some c → X.env.cells.lookup y = some c := fun {y c} e => capt_cell L I.ok e
  have mm : ∀ {y c}, (cloFrom X.env.cells scope.names []).lookup y = some c → c ∈ capt X scope := fun {y c} e => List.mem_map.mpr ⟨(y, c), PySem.mem_of_lookup e, rfl⟩
  have look : ∀ {y}, scope.names.lookup y = some .free → ∃ c, (cloFrom X.env.cells scope.names []).lookup y = some c := fun {y} hl => mem_lookup (cloFrom_has (cells := X.env.cells) (acc := []) (PySem.mem_of_lookup hl))
  have isCell : ∀ {c : Addr} {v : Option Value}, c ∈ capt X scope → s.heap.IsCell c v → h₁.IsCell c v := fun {c v} hm ⟨o, ho, hdv⟩ => ⟨o, kp _ _ (same c hm o ho), hdv⟩
  have noA : ∀ b : Addr, b ∉ (lamCx X A outer s1 (hid HC (capt X scope)) E scope f c').ex := fun b z => absurd (show b ∈ ([] : List Addr) from z) (by simp)
  have low : ∀ b, HC b = none → hid HC (capt X scope) b = none := fun b e => by
    unfold hid
    split
    · rfl
    · exact e
  have hok2 := hok_hid e0.hok ex
  refine ⟨⟨e0.mod, L.kind, rfl, rfl, Nat.le_refl _, fun y z c e1 e2 => I.ok.inj y z c (cm e1) (cm e2), fun y hy => ?_, fun y c z _ => ?_, fun _ => hd, Around.frames_deeper e0.frames, .inr ⟨rfl, rfl⟩, fun b z => absurd z (noA b), fun b o e => ⟨(e0.bs b o e).1, low b (e0.bs b o e).2⟩, e0.bsz, fun b _ _ => noA b,
      fun b z => absurd z (noA b), e0.funs, fun b hb => low b (e0.frf b hb)⟩,
    rfl, e0.bare, Un.kept kp, ⟨_, hns, fun i y v e1 e2 e3 => ?_⟩, fun y c e => ?_, hok2.fresh (Nat.le_refl _), fun y c e => hid_in (mm e), fun q hq => absurd (show q ∈ ([] : List (Addr × Obj)) ++ [] from hq) (by simp), hok2.kept kp, I.len⟩
  · have hy : scope.names.lookup y = some .cell ∨ scope.names.lookup y = some .free := hy
    rcases hy with hy | hy
    · exact absurd rfl (L.own _ (PySem.mem_of_lookup hy)).2
    · exact look hy
  · have z : false = true := z
    cases z
  · have e3 : Vis scope y := e3
    rcases e3 with k | k | k
    · exact absurd rfl (L.own _ (PySem.mem_of_lookup k)).1
    · exact absurd rfl (L.own _ (PySem.mem_of_lookup k)).2
    · obtain ⟨m, hn, hl⟩ := I.loc
      have vis : Vis X.env.scope y := (L.free _ (PySem.mem_of_lookup k) rfl).elim (fun k => .inr (.inl k)) (fun k => .inr (.inr k))
      obtain ⟨u, r, q⟩ := hl i y v e1 e2 vis
      obtain ⟨c2, h2⟩ := look k
      refine ⟨u, r, .inr ⟨.inr k, c2, h2, ?_⟩⟩
      have c1 := cm h2
      rcases q with ⟨k', _⟩ | ⟨_, c3, e', z⟩
      · have k' : X.env.scope.names.lookup y = some .local := k'
        rcases L.free _ (PySem.mem_of_lookup k) rfl with k2 | k2 <;> rw [show X.env.scope.names.lookup y = _ from k2] at k' <;> cases k'
      · rw [c1] at e'
        cases e'
        exact isCell (mm h2) z
  · obtain ⟨u, z⟩ := I.cell y c (cm e)
    exact ⟨u, isCell (mm e) z⟩
/-! ### a closure called -/
/-- what a lambda's body sees: values alone -/
def viewSl (sl : Sl) : Sl := sl.map fun s => match s with
  | .val d => .val d
  | _ => .no
/-- a lambda's body as a thunk -/
def lamRes (m : ME) (sl : Sl) : Res := match m (viewSl sl) with
  | .ok (.dat d) _ => .ret d false
  | .ok (.new d) _ => .ret d true
  | .ok (.slot i) sl2 => (match sl2[i]? with
    | some (.val d) => .ret d false
    | _ => .bad)
  | .exc c _ => .exc c
  | .bad => .bad
/-- cells in the frozen part -/
def Cells (F : Hp) (cl : List Addr) : Prop := ∀ c ∈ cl, ∃ ob, F c = some (ExO c ob) ∧ (∃ h : Heap, h.get? c = some ob) ∧ ∃ v, ob.data = .cell v
theorem Cells.exts {F H : Hp} {cl : List Addr} (x : Cells F cl) (s : Same F H) : Exts H cl := fun c hc => let ⟨ob, e, _⟩ := x c hc; ⟨ob, s _ _ e⟩
theorem Cells.mono {F F' : Hp} {cl : List Addr} (x : Cells F cl) (s : Same F F') : Cells F' cl := fun c hc => let ⟨ob, e, r⟩ := x c hc; ⟨ob, s _ _ e, r⟩
theorem Cells.out {F : Hp} {cl : List Addr} (x : Cells F cl) {a : Addr} {o : HO} (e : F a = some o) (n : ∀ φ, o ≠ .ext φ) : a ∉ cl := fun hm => by
  obtain ⟨ob, e2, _⟩ := x a hm
  rw [e] at e2
  exact n _ (Option.some.inj e2)
theorem Cells.exn {K : PySem.W.Frag} {F : Hp} {cl : List Addr} (x : Cells F cl) {a : Addr} {c : Str} (e : F a = some (ExnO K a c)) : a ∉ cl := fun hm => by
  obtain ⟨ob, e2, ⟨h, eh⟩, v, ev⟩ := x a hm
  rw [e] at e2
  have e3 : ExnO K a c = ExO a ob := Option.some.inj e2
  unfold ExnO ExO at e3
  have e4 := HO.ext.inj e3
  have e5 : (∃ oe : Obj, h.get? a = some oe ∧ Zc (.ref (He.ga K c)) none oe ∧ ∃ vs, oe.data = .fields vs) := by
    have := congrFun e4 h
    rw [this]
    exact eh
  obtain ⟨oe, e6, _, vs, e7⟩ := e5
  rw [eh] at e6
  cases e6
  rw [ev] at e7
  cases e7
section
variable {K : PySem.W.Frag} {F : Hp} {cl : List Addr}
mutual
theorem Rep.hid (x : Cells F cl) : ∀ (d : D) (v : L2.V), Rep K F d v → Rep K (DL.hid F cl) d v
  | .non, _, h => h
  | .bl _, _, h => h
  | .int _, _, h => h
  | .str _, _, h => h
  | .tup ds, v, h => by
    simp only [Rep] at h ⊢
    obtain ⟨z, a, vs, e1, e2, r⟩ := h
    exact ⟨z, a, vs, e1, by rw [hid_out (x.out e2 (fun _ z => nomatch z))]; exact e2, Reps.hid x ds vs r⟩
  | .lst ds, v, h => by
    simp only [Rep] at h ⊢
    obtain ⟨z, a, vs, e1, e2, r⟩ := h
    exact ⟨z, a, vs, e1, by rw [hid_out (x.out e2 (fun _ z => nomatch z))]; exact e2, Reps.hid x ds vs r⟩
  | .dct kvs, v, h => by
    simp only [Rep] at h ⊢
    obtain ⟨a, ws, e1, e2, r⟩ := h
    exact ⟨a, ws, e1, by rw [hid_out (x.out e2 (fun _ z => nomatch z))]; exact e2, RepK.hid x kvs ws r⟩
  | .dctT kvs, v, h => by
    simp only [Rep] at h ⊢
    obtain ⟨a, ws, e1, e2, r⟩ := h
    exact ⟨a, ws, e1, by rw [hid_out (x.out e2 (fun _ z => nomatch z))]; exact e2, RepT.hid x kvs ws r⟩
  | .exn c, v, h => by
    simp only [Rep] at h ⊢
    obtain ⟨a, e1, e2⟩ := h
    exact ⟨a, e1, by rw [hid_out (x.exn e2)]; exact e2⟩
  | .scr ns, v, h => by
    simp only [Rep] at h ⊢
    obtain ⟨z, a, e1, e2⟩ := h
    refine ⟨z, a, e1, ?_⟩
    rcases e2 with (e2 | ⟨o, e2⟩) | e2
    · exact .inl (.inl (by rw [hid_out (x.out e2 (fun _ z => nomatch z))]; exact e2))
    · exact .inl (.inr ⟨o, by rw [hid_out (x.out e2 (fun _ z => nomatch z))]; exact e2⟩)
    · exact .inr e2
theorem Reps.hid (x : Cells F cl) : ∀ (ds : List D) (vs : List L2.V), Reps K F ds vs → Reps K (DL.hid F cl) ds vs
  | [], _, h => h
  | d :: ds, vs, h => by
    simp only [Reps] at h ⊢
    obtain ⟨v, ws, e1, r1, r2⟩ := h
    exact ⟨v, ws, e1, Rep.hid x d v r1, Reps.hid x ds ws r2⟩
theorem RepK.hid (x : Cells F cl) : ∀ (ds : List (Ky × D)) (vs : List (Key × L2.V)), RepK K F ds vs → RepK K (DL.hid F cl) ds vs
  | [], _, h => h
  | (k, d) :: ds, vs, h => by
    simp only [RepK] at h ⊢
    obtain ⟨v, ws, e1, r1, r2⟩ := h
    exact ⟨v, ws, e1, Rep.hid x d v r1, RepK.hid x ds ws r2⟩
theorem RepT.hid (x : Cells F cl) : ∀ (ds : List (List Ky × D)) (vs : List (List Key × L2.V)), RepT K F ds vs → RepT K (DL.hid F cl) ds vs
  | [], _, h => h
  | (k, d) :: ds, vs, h => by
    simp only [RepT] at h ⊢
    obtain ⟨v, ws, e1, r1, r2⟩ := h
    exact ⟨v, ws, e1, Rep.hid x d v r1, RepT.hid x ds ws r2⟩
end
theorem OwnAt.hid {H : Hp} {a : Addr} {d : D} (x : Cells F cl) (y : Exts H cl) (h : OwnAt K H F a d) : OwnAt K (DL.hid H cl) (DL.hid F cl) a d := by
  cases d with
  | lst ds => obtain ⟨z, vs, e, r⟩ := h; exact ⟨z, vs, by rw [hid_out (y.ne e (fun _ z => nomatch z))]; exact e, r.hid x _ _⟩
  | dct ds => obtain ⟨vs, e, r⟩ := h; exact ⟨vs, by rw [hid_out (y.ne e (fun _ z => nomatch z))]; exact e, r.hid x _ _⟩
  | dctT ds => obtain ⟨vs, e, r⟩ := h; exact ⟨vs, by rw [hid_out (y.ne e (fun _ z => nomatch z))]; exact e, r.hid x _ _⟩
  | _ => exact (show False from h).elim
end
theorem tabs_hid {T : List (Addr × Str)} {H : Hp} {cl : List Addr} (t : Tabs T H) (x : ∀ c ∈ cl, ∃ ob, H c = some (ExO c ob) ∧ (∃ h : Heap, h.get? c = some ob) ∧ ∃ v, ob.data = .cell v) : Tabs T (DL.hid H cl) := fun p hp => by
  have y : Exts H cl := fun c hc => let ⟨ob, e, _⟩ := x c hc; ⟨ob, e⟩
  obtain ⟨ps, e, t1, k⟩ := t p hp
  refine ⟨ps, by rw [hid_out (y.ne e (fun _ z => nomatch z))]; exact e, t1, fun pos cv h => ?_⟩
  obtain ⟨c, e1, e2⟩ := k pos cv h
  refine ⟨c, e1, ?_⟩
  have : c ∉ cl := fun hm => by
    obtain ⟨ob, e3, ⟨hh, eh⟩, v, ev⟩ := x c hm
    rw [e2] at e3
    have e4 : CodeO c p.2 = ExO c ob := Option.some.inj e3
    unfold CodeO ExO at e4
    have e5 := congrFun (HO.ext.inj e4) hh
    have e6 : (∃ (oc : Obj) (vs : Array Value) (t : Tok), hh.get? c = some oc ∧ oc.data = .fields vs ∧ vs[1]? = some (.str p.2 t)) := by rw [e5]; exact eh
    obtain ⟨oc, vs, t, e7, e8, _⟩ := e6
    rw [eh] at e7
    cases e7
    rw [ev] at e8
    cases e8
  rw [hid_out this]
  exact e2
end
end DL
end
section
set_option linter.all false
set_option maxRecDepth 100000
set_option maxHeartbeats 4000000
set_option autoImplicit false
namespace DL
open PySem L2 PySem.Spec PyProof.Rows HotX L2H LamX
/-- the context of a lambda's body -/
abbrev lamN (X : Cx) (A : Around) (outer : List Env) (s : Shared) (H : Hp) (E : XK) (scope : Scope) (f c' : Addr) : Cx :=
  (lamCx X A outer s H E scope f c').wish fun e s' => wpAny (model X.prog X.w) (A.deeper (lamEnv X scope s.heap.objs.size f c')) (leaving (lamEnv X scope s.heap.objs.size f c') e) (fun _ s'' => L2N.CX X.prog X.w outer H s E e s'') (fun e' s'' => L2N.CX X.prog X.w outer H s E e' s'') s'
theorem takes_lam {X : Cx} {A : Around} {outer : List Env} {s : Shared} {H : Hp} {E : XK} {scope : Scope} {f c' : Addr} : L2N.Takes (lamN X A outer s H E scope f c') (fun cls d _ H => E cls d H) := L2N.takes_of rfl rfl rfl rfl
section
variable {G : Gx} {F H F1 H1 : Hp} {cl : List Addr}
theorem grow_unhid (x : Cells F cl) (sF : Same F H) (g : Grow (hid F cl) (hid H cl) F1 H1) (n1 : ∀ c ∈ cl, H1 c = none) : Grow F H (unhid F F1 cl) (unhid H H1 cl) := by
  have y := x.exts sF
  refine ⟨fun a o e => ?_, fun a o e => ?_, fun a o e => ?_, fun a e n => ?_⟩
  · by_cases hm : a ∈ cl
    · rw [unhid_in hm]; exact .inl e
    · rw [unhid_out hm]; exact g.ext a o (by rw [hid_out hm]; exact e)
  · by_cases hm : a ∈ cl
    · rw [unhid_in hm]; exact e
    · rw [unhid_out hm]; exact g.fsub a o (by rw [hid_out hm]; exact e)
  · by_cases hm : a ∈ cl
    · rw [unhid_in hm] at e ⊢; exact sF a o e
    · rw [unhid_out hm] at e ⊢; exact g.sub a o e
  · by_cases hm : a ∈ cl
    · rw [unhid_in hm] at n; exact absurd e n
    · rw [unhid_out hm] at n
      have := g.new a (by rw [hid_out hm]; exact e) n
      rw [hid_out hm] at this
      exact this
theorem tabs_unhid {T : List (Addr × Str)} (t : Tabs T H1) (n1 : ∀ c ∈ cl, H1 c = none) : Tabs T (unhid H H1 cl) := t.ext fun b o e => by
  rw [unhid_out fun hm => by rw [n1 b hm] at e; cases e]; exact e
theorem same_unhid (s : Same F1 H1) (n1 : ∀ c ∈ cl, H1 c = none) : Same F1 (unhid F F1 cl) := fun a o e => by
  rw [unhid_out fun hm => by have := s _ _ e; rw [n1 a hm] at this; cases this]; exact e
end
theorem ub_unhid {fs : List Addr} {H H2 : Hp} {h B h' : Heap} {cl : List Addr} (u : UB fs (hid H cl) H2 h B h') (x : Exts H cl) : UB fs H (unhid H H2 cl) h B h' := by
  have low : ∀ {b : Addr}, H b = none → hid H cl b = none ∧ b ∉ cl := fun {b} e => by
    have : b ∉ cl := fun hm => by obtain ⟨ob, e2⟩ := x b hm; rw [e] at e2; cases e2
    exact ⟨by rw [hid_out this]; exact e, this⟩
  have up : ∀ {b : Addr} {o : HO}, H b = some o → (∀ φ, o ≠ .ext φ) → hid H cl b = some o ∧ b ∉ cl := fun {b o} e n => by
    have := x.ne e n
    exact ⟨by rw [hid_out this]; exact e, this⟩
  refine ⟨fun b o e n => u.keep b o e (low n).1, u.slot, fun b o e n => ?_, u.there, fun b xs e => ?_, fun b o y e => ?_, fun b ps e => ?_⟩
  · rw [unhid_out (low n).2]; exact u.free b o e (low n).1
  · obtain ⟨e2, m⟩ := up e (fun _ z => nomatch z)
    rw [unhid_out m]; exact u.tups b xs e2
  · obtain ⟨e2, m⟩ := up e (fun _ z => nomatch z)
    rw [unhid_out m]; exact u.frzs b o y e2
  · obtain ⟨e2, m⟩ := up e (fun _ z => nomatch z)
    rw [unhid_out m]; exact u.tbls b ps e2
theorem cx_unhid {P : Program} {w : World} {outer : List Env} {H : Hp} {cl : List Addr} {s s3 : Shared} {E : XK} {e : Value} (ok : HOk P w H s.heap) (x : Exts H cl) (nf : ∀ c ∈ cl, c ∉ frs outer)
    (h : L2N.CX P w outer (hid H cl) s (fun cls d Hb => (∀ c ∈ cl, Hb c = none) → E cls d (unhid H Hb cl)) e s3) : L2N.CX P w outer H s E e s3 := by
  obtain ⟨a, B, Hb, cls, d, rfl, fly, hok, ub, na, os, bare, q⟩ := h
  have n1 : ∀ c ∈ cl, Hb c = none := fun c hc => by
    obtain ⟨ob, e⟩ := x c hc
    exact ub.free c ob (exO_at ok e) (hid_in hc)
  have atB : ∀ c ∈ cl, ∀ ob, H c = some (ExO c ob) → B.get? c = some ob := fun c hc ob e => ub.keep c ob (exO_at ok e) (hid_in hc) (nf c hc)
  refine ⟨a, B, unhid H Hb cl, cls, d, rfl, fly, hok_unhid hok x n1 atB, ub_unhid ub x, ?_, os, bare, q n1⟩
  rw [unhid_out fun hm => ?_]
  · exact na
  · obtain ⟨ob, e⟩ := x a hm
    have := atB a hm ob e
    rw [fly.2.1] at this
    cases this
section
variable {X : Cx} {G : Gx} {pins : List (Addr × Obj)} {σ : L2.St} {H0 F0 H F : Hp} {sl : Sl} {s : Shared}
theorem sr_view {HC FC : Hp} (S : SR G H0 F0 sl σ H F) (sF : Same F FC) (sH : Same FC HC) (tb : Tabs G.T HC) (nt : ∀ p ∈ G.T, FC p.1 = none) : SR G HC FC (viewSl sl) σ HC FC := by
  have nomine : ∀ (i : Nat) (t : Slot), (viewSl sl)[i]? = some t → t.mine = false := fun i t e => by
    unfold viewSl at e
    rw [List.getElem?_map] at e
    obtain ⟨u, _, e2⟩ := Option.map_eq_some_iff.mp e
    subst e2
    cases u <;> rfl
  refine ⟨Grow.refl sH, by unfold viewSl; rw [List.length_map]; exact S.len, fun i t e => ?_, fun i j a si sj nij ei ej mi mj => (by rw [nomine i si ei] at mi; cases mi), tb, nt⟩
  unfold viewSl at e
  rw [List.getElem?_map] at e
  obtain ⟨u, e1, e2⟩ := Option.map_eq_some_iff.mp e
  subst e2
  have R := S.rel i u e1
  cases u with
  | val d => obtain ⟨v, e3, r⟩ := R; exact ⟨v, e3, Rep.mono sF _ _ r⟩
  | _ => trivial
/-- A LAMBDA OF A FRAME AS A THUNK: Fc is the frozen part with the captured cells -/
theorem lam_tp {k : Nat} {f c' : Addr} {pm ctv : Value} {params : Arguments} {body : Expr} {scope : Scope} {m : ME} {Fc : Hp} (I : Inv X pins σ H s) (hK : X.K = G.K) (L : LamS X.env.scope scope) (S : SR G H0 F0 sl σ H F) (sFc : Same F Fc)
    (ef : Fc f = some (ExO f (lamOb X params body scope pm ctv c'))) (ec : Fc c' = some (CodeO c' (X.env.qual ++ "<lambda>"))) (x : Cells Fc (capt X scope)) (at_ : ∀ c ∈ capt X scope, ∀ ob, s.heap.get? c = some ob → Fc c = some (ExO c ob))
    (hbind : ∀ (q : Str) (cl : List (Str × Addr)) (pm cv ctv : Value), bindArgs (PySem.W.kla_fn "<lambda>" q params body scope cl pm cv ctv) ⟨[], []⟩ = pure [])
    (hbody : ∀ (A : Around) (outer : List Env) (s : Shared) (H : Hp) (E : XK), Room k (A.deeper (lamEnv X scope s.heap.objs.size f c')) → DE (lamN X A outer s H E scope f c') G (fun cls d _ H => E cls d H) body m) :
    TPf X.prog X.w X.mg X.base X.K G.T (k + 1) Fc f (lamRes m sl) := by
  refine ⟨⟨_, ef⟩, fun F' s1 G' hGK hGT A outer s' H' Q E hr e0 sub tb nt post => ?_⟩
  have xF := x.mono s1
  have xH := xF.exts sub
  have of1 := exO_at e0.hok (sub _ _ (s1 _ _ ef))
  obtain ⟨⟨oc, vs, t, hoc, hdc, hvc⟩, _, _⟩ := e0.hok c' _ (sub _ _ (s1 _ _ ec))
  have cellS : ∀ c ∈ capt X scope, ∀ ob, s.heap.get? c = some ob → s'.heap.get? c = some ob := fun c hc ob e => exO_at e0.hok (sub _ _ (s1 _ _ (at_ c hc ob e)))
  refine PySem.W.kla_callFunE hr.depth of1 rfl L.co L.gen rfl ⟨c', oc, vs, t, rfl, hoc, hdc, hvc⟩ ?_
  rw [hbind]
  have lim : s'.heap.NoLimit := e0.mod.nolimit.keeps fun b o e => (e0.bs b o e).1
  refine wpAny_pure (wpAny_newFunctionEnv (fun y hy => (L.own y hy).2) (fun y hy => absurd hy (by simp)) (fun h₁ hns hsb => ⟨lim.fresh _ hsb, ?_⟩) L.kind)
  show codeAny _ _ (.expr body (lamEnv X scope s'.heap.objs.size f c')) _ _
  have kp : ∀ b o, s'.heap.get? b = some o → h₁.get? b = some o := fun b o e => hsb.extBut b o (Nat.ne_of_lt (Heap.lt_size e)) (Heap.get?_push_of_some _ e)
  generalize hcl : capt X scope = cl at *
  let Eb : XK := fun cls d Hb => (∀ c ∈ cl, Hb c = none) → E cls d (unhid H' Hb cl)
  have J0 : Inv (lamCx X A outer s' (hid H' cl) Eb scope f c') [] σ (hid H' cl) { s' with heap := h₁, toks := s'.toks + ([] : List (Str × Value)).length } := by
    have := inv_lam (A := A) (outer := outer) (E := Eb) (f := f) (c' := c') (h₁ := h₁) (tk := s'.toks + ([] : List (Str × Value)).length) (HC := H') (s1 := s') I L e0 hr.hd (by rw [hcl]; exact xH) (by rw [hcl]; exact cellS) hns kp
    rw [hcl] at this
    exact this
  have J : Inv (lamN X A outer s' (hid H' cl) Eb scope f c') [] σ (hid H' cl) { s' with heap := h₁, toks := s'.toks + ([] : List (Str × Value)).length } := J0.wish _
  have cellN : ∀ c ∈ cl, F c = none := fun c hc => by
    rw [← hcl] at hc
    obtain ⟨y, ey⟩ := capt_mem L I.ok hc
    cases q : F c with
    | none => rfl
    | some o => have := S.sub _ _ q; rw [I.freeC y c ey] at this; cases this
  have sFh : Same F (hid F' cl) := fun a o e => by
    rw [hid_out fun hm => by rw [cellN a hm] at e; cases e]
    exact s1 _ _ (sFc _ _ e)
  have shid : Same (hid F' cl) (hid H' cl) := fun a o e => by
    obtain ⟨n, e2⟩ := hid_some e
    rw [hid_out n]
    exact sub _ _ e2
  have xH2 : ∀ c ∈ cl, ∃ ob, H' c = some (ExO c ob) ∧ (∃ h : Heap, h.get? c = some ob) ∧ ∃ v, ob.data = .cell v := fun c hc => let ⟨ob, e, r⟩ := xF c hc; ⟨ob, sub _ _ e, r⟩
  have S2 : SR G (hid H' cl) (hid F' cl) (viewSl sl) σ (hid H' cl) (hid F' cl) := sr_view S sFh shid (tabs_hid tb xH2) fun p hp => by
    unfold hid
    split
    · rfl
    · exact nt p hp
  -- the end of the body
  have fin : ∀ {v : L2.V} {Hb Fb : Hp} {sl2 : Sl} {r : Rv} {d : D} {fr : Bool}, SR G (hid H' cl) (hid F' cl) sl2 σ Hb Fb → (fr = true → ∃ a, v = .ref a ∧ Fb a = none ∧ hid H' cl a = none ∧ OwnAt G.K Hb Fb a d) → (fr = false → Rep G.K Fb d v) → lamRes m sl = .ret d fr → (∀ c ∈ cl, Hb c = none) → Q v (unhid H' Hb cl) := fun {v Hb Fb sl2 r d fr} S3 h1 h2 e n1 => by
    rw [e] at post
    obtain ⟨K', T', TP', LO', tp', lo'⟩ := G'
    simp only at hGK hGT
    subst hGK hGT
    have gr : GrowT G F' H' (unhid F' Fb cl) (unhid H' Hb cl) := ⟨grow_unhid xF sub S3.grow n1, fun _ => tabs_unhid S3.tabs n1⟩
    refine post v _ (unhid F' Fb cl) gr (tabs_unhid S3.tabs n1) ?_
    rw [hK]
    cases fr with
    | false =>
      rw [if_neg Bool.false_ne_true]
      exact Rep.mono (same_unhid S3.sub n1) _ _ (h2 rfl)
    | true =>
      rw [if_pos rfl]
      obtain ⟨a, ev, fa, ha, w⟩ := h1 rfl
      have na : a ∉ cl := fun hm => by
        obtain ⟨u, q, _⟩ := w.there
        rw [n1 a hm] at q
        cases q
      exact ⟨a, ev, by rw [unhid_out na]; exact fa, by rw [hid_out na] at ha; exact ha, w.move (unhid_out na) (same_unhid S3.sub n1)⟩
  have run : TEd G (fun cls d _ H => Eb cls d H) m σ (hid H' cl) fun v Hb => (∀ c ∈ cl, Hb c = none) → Q v (unhid H' Hb cl) := by
    refine ⟨_, _, _, _, S2, ?_⟩
    cases e : m (viewSl sl) with
    | bad =>
      have : lamRes m sl = .bad := by unfold lamRes; rw [e]
      rw [this] at post
      exact post
    | exc c sl2 =>
      have er : lamRes m sl = .exc c := by unfold lamRes; rw [e]
      rw [er] at post
      intro Hb Fb S3 s3 n1
      obtain ⟨K', T', TP', LO', tp', lo'⟩ := G'
      simp only at hGK hGT
      subst hGK hGT
      have gr : GrowT G F' H' (unhid F' Fb cl) (unhid H' Hb cl) := ⟨grow_unhid xF sub S3.grow n1, fun _ => tabs_unhid S3.tabs n1⟩
      have z := post _ _ gr (tabs_unhid S3.tabs n1)
      rw [← hK]
      exact z
    | ok r sl2 =>
      cases r with
      | dat d =>
        have er : lamRes m sl = .ret d false := by unfold lamRes; rw [e]
        exact fun v Hb Fb S3 s3 R => fin (r := .dat d) (fr := false) S3 (fun z => nomatch z) (fun _ => R) er
      | new d =>
        have er : lamRes m sl = .ret d true := by unfold lamRes; rw [e]
        exact fun v Hb Fb S3 s3 ⟨a, ev, fa, ha, w, _⟩ => fin (r := .new d) (fr := true) S3 (fun _ => ⟨a, ev, fa, ha, w⟩) (fun z => nomatch z) er
      | slot i =>
        cases q : sl2[i]? with
        | none =>
          have : lamRes m sl = .bad := by unfold lamRes; rw [e]; simp only [q]
          rw [this] at post
          exact post.elim
        | some t =>
          cases t with
          | val d =>
            have er : lamRes m sl = .ret d false := by unfold lamRes; rw [e]; simp only [q]
            intro v Hb Fb S3 s3 R
            have R : σ[i]? = some (some v) := R
            obtain ⟨u, e1, r1⟩ := S3.rel i _ q
            rw [R] at e1
            cases e1
            exact fin (r := .dat d) (fr := false) S3 (fun z => nomatch z) (fun _ => r1) er
          | _ =>
            have : lamRes m sl = .bad := by unfold lamRes; rw [e]; simp only [q]
            rw [this] at post
            exact post.elim
  have notFr : ∀ c ∈ cl, c ∉ frs outer := fun c hc hm => by
    obtain ⟨ob, e⟩ := xH c hc
    rw [e0.frf c hm] at e
    cases e
  refine PySem.W.kla_codeExpr (wpAny_mono ((hbody A outer s' (hid H' cl) Eb (hr.deeper _)).run [] _ _ _ _ J run) (fun v s2 hq => ?_) fun e s2 hq => wpAny_mono hq (fun _ s3 hx => ?_) fun e' s3 hx => ?_)
  · obtain ⟨w', Hb, J', rv, q⟩ := hq
    have n1 : ∀ c ∈ cl, Hb c = none := fun c hc => by
      obtain ⟨ob, e⟩ := xH c hc
      exact J'.base.free c ob (exO_at e0.hok e) (hid_in hc) (fun z => nomatch (show c ∈ ([] : List Addr) from z))
    refine ⟨w', _, J'.os, J'.bare, un_unhid J'.base xH, hok_unhid J'.hok xH n1 (fun c hc ob e => ?_), rv, q n1⟩
    exact J'.base.keep c ob (exO_at e0.hok e) (hid_in hc) (notFr c hc) (fun z => nomatch (show c ∈ ([] : List Addr) from z))
  · exact cx_unhid e0.hok xH notFr hx
  · exact cx_unhid e0.hok xH notFr hx
end
end DL
end
section
set_option linter.all false
set_option maxRecDepth 100000
set_option maxHeartbeats 4000000
set_option autoImplicit false
namespace DL
open PySem L2 PySem.Spec PyProof.Rows HotX L2H LamX
/-! ### a call that hands lambdas out: the frame's cells are told meanwhile -/
def withC (h : Heap) (cl : List Addr) (H : Hp) : Hp := fun a => if a ∈ cl then (h.get? a).map (ExO a) else H a
section
variable {X : Cx} {G : Gx} {W : WX} {pins : List (Addr × Obj)} {σ : L2.St} {H0 F0 H F : Hp} {sl : Sl} {s : Shared}
theorem withC_out {h : Heap} {cl : List Addr} {a : Addr} (n : a ∉ cl) : withC h cl H a = H a := if_neg n
theorem withC_in {h : Heap} {cl : List Addr} {a : Addr} (n : a ∈ cl) : withC h cl H a = (h.get? a).map (ExO a) := if_pos n
/-- the frame's own cells -/
structure Mine (X : Cx) (cl : List Addr) : Prop where
  look : ∀ c ∈ cl, ∃ y, X.env.cells.lookup y = some c
  fn : ∀ y, X.fn y = true
variable {cl : List Addr}
theorem Mine.free (M : Mine X cl) (I : Inv X pins σ H s) : ∀ c ∈ cl, H c = none := fun c hc => let ⟨y, e⟩ := M.look c hc; I.freeC y c e
theorem Mine.cell (M : Mine X cl) (I : Inv X pins σ H s) : ∀ c ∈ cl, ∃ ob v, s.heap.get? c = some ob ∧ ob.data = .cell v := fun c hc => by
  obtain ⟨y, e⟩ := M.look c hc
  obtain ⟨v, o, ho, hd⟩ := I.cell y c e
  exact ⟨o, v, ho, hd⟩
theorem Mine.base (M : Mine X cl) (I : Inv X pins σ H s) : ∀ c ∈ cl, X.base.get? c = none := fun c hc => by
  obtain ⟨y, e⟩ := M.look c hc
  have h1 := I.ok.cab y c (M.fn y) e
  cases q : X.base.get? c with
  | none => rfl
  | some o => exact absurd (Nat.lt_of_lt_of_le (Heap.lt_size q) (Nat.le_trans I.ok.bsz h1)) (Nat.lt_irrefl _)
theorem Mine.frames (M : Mine X cl) (I : Inv X pins σ H s) : ∀ c ∈ cl, c ∉ frs X.stack := fun c hc hm => by
  obtain ⟨y, e⟩ := M.look c hc
  have h1 := I.ok.cab y c (M.fn y) e
  rcases List.mem_cons.mp (I.stkSub c hm) with z | z
  · obtain ⟨m, ⟨ob, es, ep, eo, dd, rest⟩, _⟩ := I.loc
    obtain ⟨v, o2, ho2, hd2⟩ := I.cell y c e
    rw [z] at ho2
    rw [eo] at ho2
    cases ho2
    first
      | (rw [hd2] at dd; cases dd)
      | (have := rest; rw [hd2] at this; cases this)
      | (obtain ⟨dd, _⟩ := rest; rw [hd2] at dd; cases dd)
      | (obtain ⟨_, dd, _⟩ := rest; rw [hd2] at dd; cases dd)
      | simp_all
  · obtain ⟨_, o, eo, _⟩ := I.ok.funs.mem z
    exact absurd (Nat.lt_of_lt_of_le (Heap.lt_size eo) h1) (Nat.lt_irrefl _)
theorem withC_cells (M : Mine X cl) (I : Inv X pins σ H s) : Cells (withC s.heap cl F) cl := fun c hc => by
  obtain ⟨ob, v, e, d⟩ := M.cell I c hc
  exact ⟨ob, by rw [withC_in hc, e]; rfl, ⟨_, e⟩, v, d⟩
theorem withC_same (M : Mine X cl) (I : Inv X pins σ H s) (sF : Same F H) : Same F (withC s.heap cl F) ∧ Same (withC s.heap cl F) (withC s.heap cl H) := by
  have n : ∀ {a : Addr} {o : HO}, F a = some o → a ∉ cl := fun {a o} e hm => by
    have := sF _ _ e
    rw [M.free I a hm] at this
    cases this
  refine ⟨fun a o e => by rw [withC_out (n e)]; exact e, fun a o e => ?_⟩
  by_cases hm : a ∈ cl
  · rw [withC_in hm] at e ⊢; exact e
  · rw [withC_out hm] at e ⊢; exact sF _ _ e
theorem withC_hok (M : Mine X cl) (I : Inv X pins σ H s) : HOk X.prog X.w (withC s.heap cl H) s.heap := fun a o e => by
  by_cases hm : a ∈ cl
  · rw [withC_in hm] at e
    obtain ⟨ob, v, eo, d⟩ := M.cell I a hm
    rw [eo] at e
    cases e
    exact ⟨eo, ⟨_, eo⟩, fun h1 h2 e st => st _ e⟩
  · rw [withC_out hm] at e
    have out : ∀ {b : Addr} {o : HO}, H b = some o → withC s.heap cl H b = some o := fun {b o} q => by
      rw [withC_out (fun z => by rw [M.free I b z] at q; cases q)]; exact q
    exact (I.hok a o e).stay (fun _ _ _ q => q) (fun b q => out q) (fun b xs q => out q)
theorem withC_env0 (M : Mine X cl) (I : Inv X pins σ H s) : Env0 X.prog X.w X.K X.mg X.base X.A X.stack s (withC s.heap cl H) := by
  have e0 := I.env0
  refine ⟨e0.frames, e0.mod, fun b o e => ⟨(e0.bs b o e).1, ?_⟩, e0.bsz, e0.funs, fun b hb => ?_, withC_hok M I, e0.bare⟩
  · rw [withC_out fun hm => by rw [M.base I b hm] at e; cases e]; exact (e0.bs b o e).2
  · rw [withC_out fun hm => M.frames I b hm hb]; exact e0.frf b hb
/-- behind the call: back to the frame -/
theorem un_withC (M : Mine X cl) (I : Inv X pins σ H s) {fs : List Addr} {H2 : Hp} {h2 : Heap} (u : Un fs [] (withC s.heap cl H) H2 s.heap h2) (ok : HOk X.prog X.w H2 h2) (c2 : ∀ c ∈ cl, H2 c = withC s.heap cl H c) : Un fs [] H (hid H2 cl) s.heap h2 := by
  have atC : ∀ c ∈ cl, ∀ ob, s.heap.get? c = some ob → h2.get? c = some ob := fun c hc ob e => by
    have := c2 c hc
    rw [withC_in hc, e] at this
    exact exO_at ok this
  have up : ∀ {b : Addr} {o : HO}, H b = some o → withC s.heap cl H b = some o ∧ b ∉ cl := fun {b o} e => by
    have : b ∉ cl := fun hm => by rw [M.free I b hm] at e; cases e
    exact ⟨by rw [withC_out this]; exact e, this⟩
  refine ⟨fun b o e n nf nx => ?_, fun b o e n nf nx => ?_, fun b o e n nx => ?_, u.there, fun b xs e => ?_, fun b o y e => ?_, fun b ps e => ?_⟩
  · by_cases hm : b ∈ cl
    · exact atC b hm o e
    · exact u.keep b o e (by rw [withC_out hm]; exact n) nf nx
  · by_cases hm : b ∈ cl
    · exact ⟨o.slots, atC b hm o e⟩
    · exact u.slot b o e (by rw [withC_out hm]; exact n) nf nx
  · by_cases hm : b ∈ cl
    · exact hid_in hm
    · rw [hid_out hm]; exact u.free b o e (by rw [withC_out hm]; exact n) nx
  · obtain ⟨e2, m⟩ := up e
    rw [hid_out m]; exact u.tups b xs e2
  · obtain ⟨e2, m⟩ := up e
    rw [hid_out m]; exact u.frzs b o y e2
  · obtain ⟨e2, m⟩ := up e
    rw [hid_out m]; exact u.tbls b ps e2
theorem cx_withC (M : Mine X cl) (I : Inv X pins σ H s) {E : XK} {e : Value} {s3 : Shared} (h : L2N.CX X.prog X.w X.stack (withC s.heap cl H) s (fun cls d H2 => (∀ c ∈ cl, H2 c = withC s.heap cl H c) ∧ E cls d (hid H2 cl)) e s3) : L2N.CX X.prog X.w X.stack H s E e s3 := by
  obtain ⟨a, B, Hb, cls, d, rfl, fly, hok, ub, na, os, bare, c2, q⟩ := h
  have atC : ∀ c ∈ cl, ∀ ob, s.heap.get? c = some ob → B.get? c = some ob := fun c hc ob e => by
    have := c2 c hc
    rw [withC_in hc, e] at this
    exact exO_at hok this
  have xb : Exts Hb cl := fun c hc => by
    obtain ⟨ob, v, e, _⟩ := M.cell I c hc
    exact ⟨ob, by rw [c2 c hc, withC_in hc, e]; rfl⟩
  have up : ∀ {b : Addr} {o : HO}, H b = some o → withC s.heap cl H b = some o ∧ b ∉ cl := fun {b o} e => by
    have : b ∉ cl := fun hm => by rw [M.free I b hm] at e; cases e
    exact ⟨by rw [withC_out this]; exact e, this⟩
  refine ⟨a, B, hid Hb cl, cls, d, rfl, fly, hok_hid hok xb, ⟨fun b o e n nf => ?_, ub.slot, fun b o e n => ?_, ub.there, fun b xs e => ?_, fun b o y e => ?_, fun b ps e => ?_⟩, ?_, os, bare, q⟩
  · by_cases hm : b ∈ cl
    · exact atC b hm o e
    · exact ub.keep b o e (by rw [withC_out hm]; exact n) nf
  · by_cases hm : b ∈ cl
    · exact hid_in hm
    · rw [hid_out hm]; exact ub.free b o e (by rw [withC_out hm]; exact n)
  · obtain ⟨e2, m⟩ := up e
    rw [hid_out m]; exact ub.tups b xs e2
  · obtain ⟨e2, m⟩ := up e
    rw [hid_out m]; exact ub.frzs b o y e2
  · obtain ⟨e2, m⟩ := up e
    rw [hid_out m]; exact ub.tbls b ps e2
  · by_cases hm : a ∈ cl
    · exact hid_in hm
    · rw [hid_out hm]; exact na
/-- the frame's state, behind -/
theorem grow_withC (M : Mine X cl) (I : Inv X pins σ H s) {F2 H2 : Hp} (sF : Same F H) (g : Grow (withC s.heap cl F) (withC s.heap cl H) F2 H2) : Grow F H (hid F2 cl) (hid H2 cl) := by
  have nF : ∀ {a : Addr} {o : HO}, F a = some o → a ∉ cl := fun {a o} e hm => by
    have := sF _ _ e
    rw [M.free I a hm] at this
    cases this
  refine ⟨fun a o e => ?_, fun a o e => ?_, fun a o e => ?_, fun a e n => ?_⟩
  · have : a ∉ cl := fun hm => by rw [M.free I a hm] at e; cases e
    rw [hid_out this]
    exact g.ext a o (by rw [withC_out this]; exact e)
  · rw [hid_out (nF e)]; exact g.fsub a o (by rw [withC_out (nF e)]; exact e)
  · obtain ⟨m, e2⟩ := hid_some e
    rw [hid_out m]; exact g.sub a o e2
  · by_cases hm : a ∈ cl
    · exact .inl (M.free I a hm)
    · rw [hid_out hm] at n
      have := g.new a (by rw [withC_out hm]; exact e) n
      rw [withC_out hm] at this
      exact this
theorem run_cells {k : Nat} {f : Addr} {fd : FuncData} {ps : List Str} {g : Fn} {us : List Value} {vs : List L2.V} {as : List Arg} {n : Nat} {Q : VK} (M : Mine X cl) (I : Inv X pins σ H s) (S : SR G H0 F0 sl σ H F) (hK : X.K = G.K) (Fk : FnOk X.prog X.w X.K X.mg X.base (L2N.CX X.prog X.w) k f fd ps (spOf G n g)) (hr : Room k X.A) (hb : Binds X.K fd ps []) (tk : L2N.Takes X W)
    (hn : as.length = n) (r : Vals vs us) (ha : ∀ Fc, Same F Fc → Cells Fc cl → (∀ c ∈ cl, ∀ ob, s.heap.get? c = some ob → Fc c = some (ExO c ob)) → Paired (ArgOk G Fc) as vs) (q : EPost G W H0 F0 F σ Q ((g as).out sl)) :
    wpAny (model X.prog X.w) X.A (call (.ref f) us) (EP X pins σ Q) X.xe s := by
  have hx : Cells (withC s.heap cl F) cl := withC_cells M I
  obtain ⟨s1, s2⟩ := withC_same M I S.sub
  have tb : Tabs G.T (withC s.heap cl H) := S.tabs.ext fun b o e => by
    rw [withC_out fun hm => by rw [M.free I b hm] at e; cases e]; exact e
  have nt : ∀ p ∈ G.T, withC s.heap cl F p.1 = none := fun p hp => by
    obtain ⟨ps, e, _⟩ := S.tabs p hp
    rw [withC_out fun hm => by rw [M.free I _ hm] at e; cases e]
    exact S.nt p hp
  have back : ∀ {v : L2.V} {d : D} {fr : Bool} {H2 F2 : Hp}, GrowT G (withC s.heap cl F) (withC s.heap cl H) F2 H2 → Tabs G.T H2 → ((∀ c ∈ cl, H2 c = withC s.heap cl H c) ∧ GrowT G F H (hid F2 cl) (hid H2 cl)) := fun {v d fr H2 F2} gr tb2 => by
    have xc : Cells F2 cl := hx.mono gr.1.fsub
    have c2 : ∀ c ∈ cl, H2 c = withC s.heap cl H c := fun c hc => by
      obtain ⟨ob, e, _⟩ := hx c hc
      rw [gr.1.sub _ _ (gr.1.fsub _ _ e), s2 _ _ e]
    exact ⟨c2, grow_withC M I S.sub gr.1, fun _ => tabs_hid tb2 fun c hc => let ⟨ob, e, rr⟩ := xc c hc; ⟨ob, gr.1.sub _ _ e, rr⟩⟩
  have post : RPost G (withC s.heap cl F) (withC s.heap cl H) (fun v H2 => (∀ c ∈ cl, H2 c = withC s.heap cl H c) ∧ Q v (hid H2 cl)) (fun cls d H2 => (∀ c ∈ cl, H2 c = withC s.heap cl H c) ∧ WE W σ cls d (hid H2 cl)) (g as) := by
    cases e : g as with
    | bad => rw [e] at q; exact q
    | exc c =>
      rw [e] at q
      intro H2 F2 gr tb2
      obtain ⟨c2, g2⟩ := back (v := .non) (d := .non) (fr := true) gr tb2
      exact ⟨c2, q _ _ (S.to g2.1 (g2.2 S.tabs)) g2.1.fsub⟩
    | ret d fr =>
      rw [e] at q
      intro v H2 F2 gr tb2 R
      obtain ⟨c2, g2⟩ := back (v := v) (d := d) (fr := fr) gr tb2
      have xc : Cells F2 cl := hx.mono gr.1.fsub
      have xe : Exts H2 cl := xc.exts gr.1.sub
      refine ⟨c2, ?_⟩
      cases fr with
      | false =>
        rw [if_neg Bool.false_ne_true] at R
        exact EPost.op S q g2 (r := .dat d) (Rep.hid xc d v R)
      | true =>
        rw [if_pos rfl] at R
        obtain ⟨a, ev, fa, ha, w⟩ := R
        have na : a ∉ cl := fun hm => by
          obtain ⟨u, e1, _, _, n1⟩ := w.there
          obtain ⟨ob, e2⟩ := xe a hm
          rw [e1] at e2
          exact n1 _ (Option.some.inj e2)
        rw [withC_out na] at ha
        exact EPost.op S q g2 (r := .new d) ⟨a, ev, by rw [hid_out na]; exact fa, ha, w.hid xc xe⟩
  have hsp : spOf G n g vs (withC s.heap cl H) _ _ := ⟨_, as, hn, s2, tb, nt, ha _ s1 hx (fun c hc ob e => by rw [withC_in hc, e]; rfl), post⟩
  have hl : us.length = ps.length := by rw [← r.length]; exact Fk.len _ _ _ _ hsp
  have b := hb s us I.kIn (by rw [List.append_nil]; exact hl)
  rw [List.append_nil] at b
  refine wpAny_call (codeAny_mono (Fk.run X.A X.stack s _ ⟨us, []⟩ us vs _ _ hr (withC_env0 M I) b r hsp) fun r' s' hq => ?_)
  cases r' with
  | error e => exact L2N.passAt tk σ pins H s e s' I (cx_withC M I hq)
  | ok fl =>
    cases fl with
    | ret u =>
      obtain ⟨v, H2, os, bare, un, hok, rv, c2, q2⟩ := hq
      have x2 : Exts H2 cl := fun c hc => by
        obtain ⟨ob, w, e, _⟩ := M.cell I c hc
        exact ⟨ob, by rw [c2 c hc, withC_in hc, e]; rfl⟩
      exact I.after ⟨v, hid H2 cl, os, bare, un_withC M I un hok c2, hok_hid hok x2, rv, q2⟩
    | next => exact False.elim hq
    | brk => exact False.elim hq
    | cont => exact False.elim hq
end
end DL
end
section
set_option linter.all false
set_option maxRecDepth 100000
set_option maxHeartbeats 4000000
set_option autoImplicit false
namespace DL
open PySem L2 PySem.Spec PyProof.Rows HotX L2H LamX
/-! ### lambdas in a def -/
structure LamSite where
  params : Arguments
  body : Expr
  scope : Scope
def LOx (X : Cx) (sites : List LamSite) : Hp → Nat → Addr → Prop := fun F i f => ∃ st pm ctv c', sites[i]? = some st ∧ F f = some (ExO f (lamOb X st.params st.body st.scope pm ctv c')) ∧ F c' = some (CodeO c' (X.env.qual ++ "<lambda>"))
/-- the same, the lambdas of the frame known by their sites -/
def Gx.lams (G : Gx) (X : Cx) (sites : List LamSite) : Gx := { G with LO := LOx X sites, lo := fun _ _ _ _ s ⟨st, pm, ctv, c', a, b, c⟩ => ⟨st, pm, ctv, c', a, s _ _ b, s _ _ c⟩ }
theorem CallF.lams {P : Program} {w : World} {mg : Str → Option Value} {base : Heap} {G : Gx} {k n : Nat} {x : Str} {g : Fn} (h : CallF P w mg base G k x n g) (X : Cx) (sites : List LamSite) : CallF P w mg base (G.lams X sites) k x n g := ⟨h.ex⟩
def mCallLam (g : Fn) (m : ME) : ME := fun sl => (g [.t (lamRes m sl)]).out sl
def mCallLams (g : Fn) (ms : List ME) (i : Nat) : ME := fun sl => match sl[i]? with
  | some (.lams ids) => (match ids.mapM (fun id => ms[id]?) with
    | some l => (g [.ts (l.map fun m => lamRes m (sl.set i .no))]).out (sl.set i .no)
    | none => .bad)
  | _ => .bad
/-- x = [lambda: ..] -/
def msLams (i id : Nat) : MS := fun sl => .nx (sl.set i (.lams [id]))
def msLamApp (i id : Nat) : MS := fun sl => match sl[i]? with
  | some (.lams ids) => if ids.length < sizeL then .nx (sl.set i (.lams (ids ++ [id]))) else .bad
  | _ => .bad
/-- H's objects at l are frozen -/
def frzL (F H : Hp) (l : List Addr) : Hp := fun a => if a ∈ l then H a else F a
section
variable {X : Cx} {G : Gx} {W : WX} {H0 F0 H F H1 F1 : Hp} {sl sl1 : Sl} {σ : L2.St}
theorem SR.lam {P f c' : Addr} {q : Str} {ob : Obj} (S : SR G H0 F0 sl σ H F) (hm : (P, q) ∈ G.T) (eg : ExtG H H1) (t1 : Tabs G.T H1) (nf : H f = none) (ef : H1 f = some (ExO f ob)) (ec : H1 c' = some (CodeO c' q)) (df : ∀ a, H1 a ≠ H a → a = f ∨ a = c' ∨ a = P) :
    SR G H0 F0 sl σ H1 (frzL F H1 [f, c']) ∧ Same F (frzL F H1 [f, c']) := by
  have sF := S.sub
  have inl : ∀ {a : Addr}, a ∈ [f, c'] → frzL F H1 [f, c'] a = H1 a := fun h => if_pos h
  have out : ∀ {a : Addr}, a ∉ [f, c'] → frzL F H1 [f, c'] a = F a := fun h => if_neg h
  have fs : Same F (frzL F H1 [f, c']) := fun a o e => by
    by_cases h : a ∈ [f, c']
    · rw [inl h]
      rcases List.mem_cons.mp h with rfl | h
      · have := sF _ _ e; rw [nf] at this; cases this
      · rw [List.mem_singleton.mp h] at e ⊢
        rcases eg _ _ (sF _ _ e) with z | ⟨ps, qs, _, z⟩
        · exact z
        · rw [ec] at z; exact absurd (Option.some.inj z) (codeO_ne qs)
    · rw [out h]; exact e
  refine ⟨S.to ⟨fun a o e => eg a o e, fs, fun a o e => ?_, fun a e n => ?_⟩ t1, fs⟩
  · by_cases h : a ∈ [f, c']
    · rw [inl h] at e; exact e
    · rw [out h] at e
      have e2 := sF _ _ e
      have nP : a ≠ P := fun z => by
        have := S.nt _ hm
        rw [show a = P from z, this] at e
        cases e
      by_cases d : H1 a = H a
      · rw [d]; exact e2
      · rcases df a d with z | z | z
        · exact absurd (by rw [z]; simp) h
        · exact absurd (by rw [z]; simp) h
        · exact absurd z nP
  · by_cases h : a ∈ [f, c']
    · rcases List.mem_cons.mp h with rfl | h
      · exact .inl nf
      · rw [List.mem_singleton.mp h]
        cases c : H c' with
        | none => exact .inl rfl
        | some o =>
          rcases eg _ _ c with z | ⟨ps, qs, _, z⟩
          · rw [ec] at z; cases z; exact .inr ⟨_, rfl⟩
          · rw [ec] at z; exact absurd (Option.some.inj z) (codeO_ne qs)
    · rw [out h] at n; exact absurd e n
/-- an object that no slot owns is frozen -/
theorem SR.frzOb {a : Addr} {o : HO} (S : SR G H0 F0 sl σ H F) (fa : F a = none) (za : H0 a = none) (ea : H a = some o) (nt : ∀ ps, o ≠ .tbl ps) (ap : ∀ (j : Nat) (t : Slot), sl[j]? = some t → t.mine = true → σ[j]? ≠ some (some (.ref a))) :
    SR G H0 F0 sl σ H (frzAt F H a) ∧ Same F (frzAt F H a) ∧ frzAt F H a a = some o := by
  refine ⟨⟨⟨S.grow.ext, S.grow.fsub.trans (frzAt_same S.sub fa), frzAt_sub S.sub, fun b e1 n => ?_⟩, S.len, fun j s ej => (S.rel j s ej).move (frzAt_same S.sub fa) fun m b eb fb _ => ⟨rfl, ?_⟩, S.sep, S.tabs, fun p hp => ?_⟩, frzAt_same S.sub fa, by unfold frzAt; rw [if_pos rfl]; exact ea⟩
  · unfold frzAt at n
    by_cases q : b = a
    · rw [q]; exact .inl za
    · rw [if_neg q] at n; exact S.grow.new b e1 n
  · unfold frzAt
    by_cases y : b = a
    · subst y
      exact (ap j s ej m eb).elim
    · rw [if_neg y]; exact fb
  · unfold frzAt
    by_cases y : p.1 = a
    · obtain ⟨ps, e1, _⟩ := S.tabs p hp
      rw [y, ea] at e1
      exact absurd (Option.some.inj e1) (nt ps)
    · rw [if_neg y]; exact S.nt p hp
/-- what the making of a def's lambdas asks -/
structure LamH (X : Cx) (G : Gx) : Prop where
  ex : ∃ c P, TabB X.base X.mg c P ∧ X.env.code = .ref c ∧ (P, X.env.qual ++ "<lambda>") ∈ G.T ∧ ∀ p ∈ G.T, p.1 = P → p.2 = X.env.qual ++ "<lambda>"
  fn : ∀ y, X.fn y = true
/-- one lambda -/
structure LamB (X : Cx) (G : Gx) (kb : Nat) (params : Arguments) (body : Expr) (scope : Scope) (m : ME) : Prop where
  L : LamS X.env.scope scope
  hdef : defaultsOf params X.env = ([], [])
  hbind : ∀ (q : Str) (cl : List (Str × Addr)) (pm cv ctv : Value), bindArgs (PySem.W.kla_fn "<lambda>" q params body scope cl pm cv ctv) ⟨[], []⟩ = pure []
  hbody : ∀ (f c' : Addr) (A : Around) (outer : List Env) (s : Shared) (H : Hp) (E : XK), Room kb (A.deeper (lamEnv X scope s.heap.objs.size f c')) → DE (lamN X A outer s H E scope f c') G (fun cls d _ H => E cls d H) body m
theorem LamB.mine {kb : Nat} {params : Arguments} {body : Expr} {scope : Scope} {m : ME} (B : LamB X G kb params body scope m) (ok : X.Ok) (fn : ∀ y, X.fn y = true) : Mine X (capt X scope) := ⟨fun c hc => capt_mem B.L ok hc, fn⟩
/-- g(lambda: body) -/
theorem de_callLam {k kb : Nat} {x : Str} {g : Fn} {params : Arguments} {body : Expr} {scope : Scope} {m : ME} {lpos p pos : Pos} (hK : X.K = G.K) (h : CallF X.prog X.w X.mg X.base G k x 1 g) (hr : Room k X.A) (tk : L2N.Takes X W) (hg : Gl X x) (hTP : G.TP = TPf X.prog X.w X.mg X.base X.K G.T (kb + 1))
    (LH : LamH X G) (B : LamB X G kb params body scope m) (hdb : (x == ("__debug__" : Str)) = false := by decide) : DE X G W (.Call (.Name x p) [.Lambda params body scope lpos] [] pos) (mCallLam g m) := by
  obtain ⟨f0, fd, ps, Fk, gm, kp, b⟩ := h.ex
  rw [← hK] at Fk kp b
  obtain ⟨c, P, TB, hcode, hmT, hu⟩ := LH.ex
  refine ⟨fun pins s σ H Q I ⟨H0, F0, F, sl, S, q⟩ => ?_⟩
  refine wpAny_Call_Name_kw (ld_glob I hg gm ?_ hdb)
  have pl := pa_cons (es := []) (pe_lambda (pos := lpos) (body := body) TB hcode hmT hu B.hdef B.L) pa_nil rfl
  refine PySem.W.callWith_K (h₀ := X.base) I.ok.mod.kin kp (thn (pl.run pos pins s σ H (fun vs H1 => ∃ f c' pm ctv, vs = [V.ref f] ∧ ExtG H H1 ∧ Tabs G.T H1 ∧ H f = none ∧ H1 f = some (ExO f (lamOb X params body scope pm ctv c')) ∧ H1 c' = some (CodeO c' (X.env.qual ++ "<lambda>")) ∧ ∀ a, H1 a ≠ H a → a = f ∨ a = c' ∨ a = P) I
    ⟨S.tabs, fun f c' pm ctv H1 eg t1 nf _ ef ec df => ⟨f, c', pm, ctv, rfl, eg, t1, nf, ef, ec, df⟩⟩) fun us s1 ⟨vs, H1, I1, r, f, c', pm, ctv, ev, eg, t1, nf, ef, ec, df⟩ => ⟨I1.kIn, ?_⟩) rfl rfl
  subst ev
  obtain ⟨S1, sF1⟩ := S.lam hmT eg t1 nf ef ec df
  have efF : frzL F H1 [f, c'] f = some (ExO f (lamOb X params body scope pm ctv c')) := by unfold frzL; rw [if_pos (by simp)]; exact ef
  have ecF : frzL F H1 [f, c'] c' = some (CodeO c' (X.env.qual ++ "<lambda>")) := by unfold frzL; rw [if_pos (by simp)]; exact ec
  exact run_cells (cl := capt X scope) (n := 1) (as := [.t (lamRes m sl)]) (B.mine I1.ok LH.fn) I1 S1 hK Fk hr b tk rfl r (fun Fc s2 xc at_ => .cons ⟨f, rfl, by
    rw [hTP]
    exact lam_tp I1 hK B.L S1 s2 (s2 _ _ efF) (s2 _ _ ecF) xc at_ B.hbind (B.hbody f c')⟩ .nil) (EPost.on q sF1)
end
end DL
end
section
set_option linter.all false
set_option maxRecDepth 100000
set_option maxHeartbeats 4000000
set_option autoImplicit false
namespace DL
open PySem L2 PySem.Spec PyProof.Rows HotX L2H LamX
section
variable {X : Cx} {G : Gx} {W : WX} {H0 F0 H F H1 F1 : Hp} {sl sl1 : Sl} {σ : L2.St} {D : Ends} {sites : List LamSite}
theorem ds_lams {i id kb : Nat} {x : Str} {params : Arguments} {body : Expr} {scope : Scope} {m : ME} {lpos lp pos pos' : Pos} (hN : X.N.Nodup) (hi : X.N[i]? = some x) (hx : Loc X.env.scope x) (LH : LamH X G) (B : LamB X (G.lams X sites) kb params body scope m) (hid' : sites[id]? = some ⟨params, body, scope⟩)
    (hs : swapsWith (.List [.Lambda params body scope lpos] lp) (some (.Name x pos')) pos.line X.env = pure false := by rfl) (hst : starEach [.Lambda params body scope lpos] X.env = (false, eval (.Lambda params body scope lpos) X.env) :: starEach [] X.env := by rfl)
    (hf : X.fn x = true ∨ X.env.scope.names.lookup x = some .local := by first | exact .inl rfl | exact .inr rfl | assumption) :
    DS X (G.lams X sites) W (.Assign [.Name x pos'] (.List [.Lambda params body scope lpos] lp) pos) (msLams i id) := by
  obtain ⟨c, P, TB, hcode, hmT, hu⟩ := LH.ex
  refine (ps_set hN hi hx (pe_lst (pa_cons (pe_lambda TB hcode hmT hu B.hdef B.L) pa_nil hst)) hs hf).mono fun D σ H ⟨H0, F0, F, sl, S, q⟩ => ?_
  refine ⟨S.tabs, fun f c' pm ctv H1 eg t1 nf _ ef ec df => ?_⟩
  obtain ⟨S1, sF1⟩ := S.lam (G := G.lams X sites) hmT eg t1 nf ef ec df
  refine ⟨by show 1 ≤ sizeLine; rw [sizeLine_eq]; decide, fun p hp => ?_⟩
  have S2 := S1.to (Grow.alloc S1.sub (.lst [V.ref f]) hp) (Tabs_alloc S1.tabs hp)
  have efF : frzL F H1 [f, c'] f = some (ExO f (lamOb X params body scope pm ctv c')) := by unfold frzL; rw [if_pos (by simp)]; exact ef
  have ecF : frzL F H1 [f, c'] c' = some (CodeO c' (X.env.qual ++ "<lambda>")) := by unfold frzL; rw [if_pos (by simp)]; exact ec
  refine q _ _ (frzL F H1 [f, c']) (S2.putOwn (s := .lams [id]) ⟨p, [f], rfl, (by show 1 ≤ sizeLine; rw [sizeLine_eq]; decide), notF S1.sub hp, S1.grow.isN hp, upd_same, .cons ⟨_, pm, ctv, c', hid', efF, ecF⟩ .nil⟩ fun j t ej m eb => ?_) sF1
  obtain ⟨b, u, e2, _, _, q2, _⟩ := (S1.rel j t ej).mine m
  rw [eb] at e2
  cases e2
  rw [hp] at q2
  cases q2
theorem SR.mutL {i : Nat} {ids ids' : List Nat} {a : Addr} {fs : List Addr} (S : SR G H0 F0 sl σ H F) (e : sl[i]? = some (.lams ids)) (ea : σ[i]? = some (some (.ref a))) (hz : ids'.length ≤ sizeLine) (pp : Paired (G.LO F) ids' fs) : SR G H0 F0 (sl.set i (.lams ids')) σ (upd H a (.lst (fs.map V.ref))) F := by
  obtain ⟨b, fs0, eb, hz0, f, z, w0, p0⟩ := S.rel i _ e
  rw [ea] at eb
  cases eb
  have hi := (List.getElem?_eq_some_iff.mp e).1
  refine ⟨⟨fun b o e1 => ?_, S.grow.fsub, fun b o e1 => ?_, S.grow.new⟩, by rw [List.length_set]; exact S.len, fun j s ej => ?_, fun j k b sj sk njk ej ek mj mk bj bk => ?_, fun p hp => ?_, S.nt⟩
  · rw [upd_ne (ne_of_none e1 z)]; exact S.grow.ext b o e1
  · rw [upd_ne (ne_of_none e1 f)]; exact S.grow.sub b o e1
  · by_cases y : i = j
    · subst y
      rw [List.getElem?_set_self hi] at ej
      cases ej
      exact ⟨a, fs, ea, hz, f, z, upd_same, pp⟩
    · rw [List.getElem?_set_ne y] at ej
      refine (S.rel j s ej).move (Same.refl F) fun m b eb fb _ => ⟨?_, fb⟩
      exact upd_ne fun y2 => S.sep i j a _ s y e ej rfl m ea (by rw [eb, y2])
  · have go : ∀ {x : Nat} {t : Slot}, (sl.set i (.lams ids'))[x]? = some t → t.mine = true → ∃ t', sl[x]? = some t' ∧ t'.mine = true := fun {x t} e1 mt => by
      by_cases y : i = x
      · subst y; exact ⟨_, e, rfl⟩
      · rw [List.getElem?_set_ne y] at e1; exact ⟨t, e1, mt⟩
    obtain ⟨t1, e1, m1⟩ := go ej mj
    obtain ⟨t2, e2, m2⟩ := go ek mk
    exact S.sep j k b t1 t2 njk e1 e2 m1 m2 bj bk
  · obtain ⟨ps, e1, t, k⟩ := S.tabs p hp
    refine ⟨ps, ?_, t, fun pos cv h => ?_⟩
    · rw [upd_ne fun y => by rw [y, w0] at e1; cases e1]; exact e1
    · obtain ⟨c, e3, e4⟩ := k pos cv h
      exact ⟨c, e3, by rw [upd_ne fun y => by rw [y, w0] at e4; cases e4]; exact e4⟩
theorem paired_snoc {α β : Type} {P : α → β → Prop} {a : α} {b : β} (h : P a b) : ∀ {l : List α} {m : List β}, Paired P l m → Paired P (l ++ [a]) (m ++ [b])
  | _, _, .nil => .cons h .nil
  | _, _, .cons q t => .cons q (paired_snoc h t)
theorem ds_lamApp {i id kb : Nat} {o : Expr} {params : Arguments} {body : Expr} {scope : Scope} {m : ME} {lpos apos cpos pos : Pos} (hK : X.K = G.K) (h1 : PE X o (tVar i)) (LH : LamH X G) (B : LamB X (G.lams X sites) kb params body scope m) (hid' : sites[id]? = some ⟨params, body, scope⟩)
    (hbase : attributeBase o "append" X.env (eval o X.env) = eval o X.env := by rfl)
    (hfew : ((backTo cpos (starEach [.Lambda params body scope lpos] X.env)).all (fun x => !x.1) && (backToKw cpos (keywordEach [] X.env)).all (fun x => x.1.isSome)
      && decide (([.Lambda params body scope lpos] : List Expr).length + ([] : List Keyword).length + (if ([] : List Keyword).isEmpty then 0 else 1) < 30)) = true := by rfl)
    (hline : (apos.endLine == cpos.line) = true := by rfl) (hs : starEach [.Lambda params body scope lpos] X.env = (false, eval (.Lambda params body scope lpos) X.env) :: starEach [] X.env := by rfl) (hplain : (backTo cpos (starEach [] X.env)).any (·.1) = false := by rfl)
    (hsw : swapsWith (.Call (.Attribute o "append" apos) [.Lambda params body scope lpos] [] cpos) none pos.line X.env = pure false := by rfl) :
    DS X (G.lams X sites) W (.Expr (.Call (.Attribute o "append" apos) [.Lambda params body scope lpos] [] cpos) pos) (msLamApp i id) := by
  obtain ⟨c, P, TB, hcode, hmT, hu⟩ := LH.ex
  refine (ps_expr (pe_bm PySem.F.plainAttrs_list PySem.F.slot_list_append PySem.F.type_list_append mt_append h1 (pa_cons (pe_lambda TB hcode hmT hu B.hdef B.L) pa_nil hs) hbase hfew hline hs hplain) hsw).mono fun D σ H ⟨H0, F0, F, sl, S, q⟩ => ?_
  unfold msLamApp at q
  split at q
  · rename_i ids e
    split at q
    · rename_i hlt
      obtain ⟨a, fs, ea, hz, fa, za, ha, pp⟩ := S.rel i _ e
      refine ⟨_, ea, .inl ⟨rfl, _, SqL.of ha⟩, S.tabs, fun f c' pm ctv H1 eg t1 nf _ ef ec df => ?_⟩
      obtain ⟨S1, sF1⟩ := S.lam (G := G.lams X sites) hmT eg t1 nf ef ec df
      have ha1 : H1 a = some (.lst (fs.map V.ref)) := by
        rcases eg _ _ ha with z | ⟨ps, qs, z, _⟩
        · exact z
        · cases z
      have efF : frzL F H1 [f, c'] f = some (ExO f (lamOb X params body scope pm ctv c')) := by unfold frzL; rw [if_pos (by simp)]; exact ef
      have ecF : frzL F H1 [f, c'] c' = some (CodeO c' (X.env.qual ++ "<lambda>")) := by unfold frzL; rw [if_pos (by simp)]; exact ec
      have lf : fs.length = ids.length := paired_len pp
      rw [sizeL_eq] at hlt
      refine ⟨a, fs.map V.ref, .ref f, rfl, rfl, ha1, by rw [List.length_map, lf]; exact hlt, ?_⟩
      have S3 := S1.mutL (ids' := ids ++ [id]) (fs := fs ++ [f]) e ea (by rw [List.length_append]; exact hlt) (paired_snoc ⟨_, pm, ctv, c', hid', efF, ecF⟩ (Paired.imp (fun _ _ t => (G.lams X sites).lo _ _ _ _ sF1 t) pp))
      rw [List.map_append] at S3
      exact q _ _ _ S3 sF1
    · exact q.elim
  · exact q.elim
theorem mapM_get {ms : List ME} : ∀ {ids : List Nat} {l : List ME}, ids.mapM (fun id => ms[id]?) = some l → Paired (fun id m => ms[id]? = some m) ids l
  | [], l, e => by
    rw [List.mapM_nil] at e
    cases e
    exact .nil
  | id :: ids, l, e => by
    rw [List.mapM_cons] at e
    obtain ⟨m, e1, e2⟩ := Option.bind_eq_some_iff.mp e
    obtain ⟨l', e3, e4⟩ := Option.bind_eq_some_iff.mp e2
    cases e4
    exact .cons e1 (mapM_get e3)
/-- g(x), x a list of the def's lambdas -/
theorem de_callLams {k kb i : Nat} {x dn : Str} {g : Fn} {ms : List ME} {p p2 pos : Pos} (hK : X.K = G.K) (h : CallF X.prog X.w X.mg X.base G k x 1 g) (hr : Room k X.A) (tk : L2N.Takes X W) (hg : Gl X x) (hTP : G.TP = TPf X.prog X.w X.mg X.base X.K G.T (kb + 1)) (hv : PE X (.Name dn p2) (tVar i))
    (fn : ∀ y, X.fn y = true) (HB : ∀ (id : Nat) (st : LamSite) (m : ME), sites[id]? = some st → ms[id]? = some m → LamB X (G.lams X sites) kb st.params st.body st.scope m) (HL : ∀ st ∈ sites, LamS X.env.scope st.scope)
    (hdb : (x == ("__debug__" : Str)) = false := by decide) (hst : starEach [.Name dn p2] X.env = (false, eval (.Name dn p2) X.env) :: starEach [] X.env := by rfl) (hpl : (backTo pos (starEach [] X.env)).any (·.1) = false := by rfl) :
    DE X (G.lams X sites) W (.Call (.Name x p) [.Name dn p2] [] pos) (mCallLams g ms i) := by
  obtain ⟨f0, fd, ps, Fk, gm, kp, b⟩ := (h.lams X sites).ex
  have hK' : X.K = (G.lams X sites).K := hK
  rw [← hK'] at Fk kp b
  refine ⟨fun pins s σ H Q I ⟨H0, F0, F, sl, S, q⟩ => ?_⟩
  unfold mCallLams at q
  split at q
  · rename_i ids e
    split at q
    · rename_i l el
      obtain ⟨a, fs, ea, hz, fa, za, ha, pp⟩ := S.rel i _ e
      refine wpAny_Call_Name_kw (ld_glob I hg gm ?_ hdb)
      refine PySem.W.callWith_K (h₀ := X.base) I.ok.mod.kin kp (thn ((pa_cons hv pa_nil hst).run pos pins s σ H (fun vs H1 => vs = [V.ref a] ∧ H1 = H) I ⟨_, ea, rfl, rfl⟩) fun us s1 ⟨vs, H1, I1, r, ev, eH⟩ => ⟨I1.kIn, ?_⟩) hst hpl
      subst ev
      rw [eH] at I1
      have S0 := S.drop i
      obtain ⟨S1, sF1, eF⟩ := S0.frzOb fa za ha (fun _ z => nomatch z) fun j t ej m eb => by
        by_cases y : i = j
        · subst y
          have hi := (List.getElem?_eq_some_iff.mp e).1
          rw [List.getElem?_set_self hi] at ej
          cases ej
          cases m
        · rw [List.getElem?_set_ne y] at ej
          exact S.sep i j a _ t y e ej rfl m ea eb
      have M : Mine X (sites.flatMap fun st => capt X st.scope) := ⟨fun c hc => by
        obtain ⟨st, h1, h2⟩ := List.mem_flatMap.mp hc
        exact capt_mem (HL st h1) I1.ok h2, fn⟩
      have mp := mapM_get el
      refine run_cells (cl := sites.flatMap fun st => capt X st.scope) (n := 1) (as := [.ts (l.map fun m => lamRes m (sl.set i .no))]) M I1 S1 hK' Fk hr b tk rfl r (fun Fc s2 xc at_ => .cons ⟨a, fs, rfl, ?_, s2 _ _ eF, ?_⟩ .nil) (EPost.on q sF1)
      · rw [List.length_map, paired_len mp]; exact hz
      · have go : ∀ {ids : List Nat} {fs : List Addr} {l : List ME}, Paired ((G.lams X sites).LO F) ids fs → Paired (fun id m => ms[id]? = some m) ids l → Paired ((G.lams X sites).TP Fc) fs (l.map fun m => lamRes m (sl.set i .no)) := by
          intro ids fs l p1
          induction p1 generalizing l with
          | nil => intro p2; cases p2; exact .nil
          | @cons id f ids fs h1 t1 ih =>
            intro p2
            cases p2 with
            | cons h2 t2 =>
              refine .cons ?_ (ih t2)
              obtain ⟨st, pm, ctv, c', es, e1, e2⟩ := h1
              have B := HB id st _ es h2
              have hm : st ∈ sites := List.mem_of_getElem? es
              have sub : ∀ c ∈ capt X st.scope, c ∈ sites.flatMap fun st => capt X st.scope := fun c hc => List.mem_flatMap.mpr ⟨st, hm, hc⟩
              show G.TP Fc f _
              rw [hTP]
              exact lam_tp (G := G.lams X sites) I1 hK' B.L S1 s2 (s2 _ _ (sF1 _ _ e1)) (s2 _ _ (sF1 _ _ e2)) (fun c hc => xc c (sub c hc)) (fun c hc => at_ c (sub c hc)) B.hbind (B.hbody f c')
        exact go pp mp
    · exact q.elim
  · exact q.elim
end
end DL
end
section
set_option linter.all false
set_option maxRecDepth 100000
set_option maxHeartbeats 4000000
set_option autoImplicit false
namespace DL
open PySem L2 PySem.Spec PyProof.Rows HotX L2H LamX
/-! ### a def that makes lambdas; the end of the law -/
/-- the table of the def x, and what stands in it -/
def tabL (K : PySem.W.Frag) (x : Str) : List (Addr × Str) := [((He.cT K (x, none)).2, x ++ ".<locals>." ++ "<lambda>")]
/-- what the law's call asks of its script -/
def spScr (K : PySem.W.Frag) (T : List Addr) (g : Fn) (n : Nat) : Sp := fun vs H Q _ => ∃ (a : Addr) (ns : List Int), vs = [.ref a] ∧ ns.length ≤ n ∧ (∀ z ∈ ns, Builtin.Int.intBits z ≤ 1048576) ∧ SqL K H a (ns.map V.int) ∧ (∀ p ∈ T, H p = some (.tbl #[])) ∧ ∀ H', Q (.bl true) H'
section
variable {fa : List He.Fa} {fn : List He.DefD} {mg : Str → Option Value} {X : Cx} {G : Gx}
theorem fn_dlL {P : Program} {w : World} {base : Heap} {x : Str} {st : Stmt} {fd : FuncData} {N ps : List Str} {k : Nat} {m : MS} (sites : List LamSite) (Fd : FunD G.K x x (defArgs st) (defBody st) (defScope st) [] [] (He.fAd G.K (x, none)) fd) (S : FnScope N ps (defScope st)) (hN : ps.length ≤ N.length)
    (body : ∀ (f : Addr) (A : Around) (outer : List Env) (s : Shared) (H : Hp) (E : XK), Room k (A.deeper (envOfC x (defScope st) s.heap.objs.size f (.ref (He.cT G.K (x, none)).1))) →
      DSs (cxOf (L2N.CX P w) P w G.K mg base N x (defScope st) f (.ref (He.cT G.K (x, none)).1) A outer s H E) (G.lams (cxOf (L2N.CX P w) P w G.K mg base N x (defScope st) f (.ref (He.cT G.K (x, none)).1) A outer s H E) sites) (fun cls d _ H => E cls d H) (defBody st) m) : FnOk P w G.K mg base (L2N.CX P w) (k + 1) (He.fAd G.K (x, none)) fd ps (spOf G ps.length (runFn N.length m)) := by
  obtain ⟨oc, od, dV, kV, doc, pm, an, cdv, ct, osl, rfl, lk, hcd, _, _⟩ := Fd.ex
  obtain ⟨c, rfl⟩ := He.codeIn_ref hcd
  have ec : (He.cT G.K (x, none)).1 = c := He.codeOf_eq lk rfl
  refine fn_of lk hcd S (fun vs H Q E h => sp_len h) fun A outer s H vs Q E hr h => ⟨_, (by rw [← ec]; exact body _ A outer s H E (by rw [ec]; exact hr)), ?_⟩
  obtain ⟨F, as, el, sF, tb, nt, p, q⟩ := h
  refine ⟨H, F, F, _, sr_start (G := G.lams _ sites) sF tb nt p (by rw [el]; exact hN), ?_⟩
  have q2 : RPost G F H Q E (runFn N.length m as) := q
  unfold runFn at q2
  show SPost (G.lams _ sites) _ H F F _ (m (startSl N.length as))
  unfold startSl
  cases e : m (as.map Slot.ofArg ++ List.replicate (N.length - as.length) .no) with
  | nx sl => rw [e] at q2; exact fun σ' H' F' S' s' => q2 .non H' F' S'.growT S'.tabs rfl
  | bk sl => rw [e] at q2; exact q2.elim
  | ct sl => rw [e] at q2; exact q2.elim
  | rt d fr => rw [e] at q2; exact q2
  | exc c sl => rw [e] at q2; exact fun σ' H' F' S' s' => q2 H' F' S'.growT S'.tabs
  | bad => rw [e] at q2; exact q2.elim
theorem lamH_of {x : Str} (TB : TabB X.base X.mg (He.cT G.K (x, none)).1 (He.cT G.K (x, none)).2) (hc : X.env.code = .ref (He.cT G.K (x, none)).1) (hq : X.env.qual = x ++ ".<locals>.") (hT : G.T = tabL G.K x) (fn : ∀ y, X.fn y = true) : LamH X G :=
  ⟨⟨_, _, TB, hc, by rw [hT, hq]; exact List.mem_singleton.mpr rfl, fun p h _ => by rw [hT] at h; rw [List.mem_singleton.mp h, hq]⟩, fn⟩
theorem tabs_start {T : List (Addr × Str)} {H : Hp} (h : ∀ p ∈ T, H p.1 = some (.tbl #[])) : Tabs T H := fun p hp => ⟨#[], h p hp, trivial, fun pos cv z => nomatch z⟩
theorem lawS_of {l : PySem.W.OpenLaw} {w : World} {K : PySem.W.Frag} {n k : Nat} {px : Str} {fl : Addr} {h : Heap} {g : Fn} {fd : FuncData} {ex : PySem.W.Frag → Bool} {tf : List He.Defn} (Y : He.SaysX fa fn [] tf ex w h K) (KX : K.In h) (hn : n ≤ sizeLine)
    (hb : ∀ (s : Shared) (u : Value), BindsTo s fd ⟨[u], []⟩ [(px, u)]) (hg : ∀ ns : List Int, ns.length ≤ n → (∀ z ∈ ns, Builtin.Int.intBits z ≤ 1048576) → g [.d (.scr ns)] = .ret (.bl true) false)
    (F : ∀ base : Heap, K.In base → base.Ns mainGlobals mg → (∀ p ∈ tf, TabB base mg (He.cT K p).1 (He.cT K p).2) → ∃ G : Gx, G.K = K ∧ (∀ p ∈ G.T, p.1 ∈ tf.map fun q => (He.cT K q).2) ∧ FnOk l.prog w K mg base (L2N.CX l.prog w) k fl fd [px] (spOf G 1 g)) :
    LawAtS l w K (L2N.CX l.prog w) k n px mg fl h := by
  refine ⟨fd, tf.map (He.cT K), spScr K (tf.map fun q => (He.cT K q).2) g n, fun p hp => ?_, fun p hp => ?_, fun p hp => ?_, hb, fun H a ns hl hbits hH hS => ⟨a, ns, rfl, hl, hbits, hS, fun p hp => ?_, fun H' => rfl⟩, fun base X1 X2 X3 => ?_⟩
  · obtain ⟨q, hq, rfl⟩ := List.mem_map.mp hp
    exact Y.empty q hq
  · obtain ⟨q, hq, rfl⟩ := List.mem_map.mp hp
    exact Y.out q hq
  · obtain ⟨q, hq, rfl⟩ := List.mem_map.mp hp
    exact PySem.W.codeHd_of_K KX (Y.hd q hq)
  · obtain ⟨q, hq, rfl⟩ := List.mem_map.mp hp
    exact hH _ (List.mem_map.mpr ⟨q, hq, rfl⟩)
  · obtain ⟨G, eK, hT, Fk⟩ := F base X1 X2 fun p hp => X3 _ (List.mem_map.mpr ⟨p, hp, rfl⟩)
    refine Fk.imp fun vs H Q E ⟨a, ns, e, hl, hbits, hS, tT, hQ⟩ => ?_
    subst e
    let Fh : Hp := fun b => if b ∈ tf.map (fun q => (He.cT K q).2) then none else H b
    have sub : Same Fh H := fun b o eb => by
      by_cases z : b ∈ tf.map (fun q => (He.cT K q).2)
      · rw [show Fh b = none from if_pos z] at eb; cases eb
      · rw [show Fh b = H b from if_neg z] at eb; exact eb
    have nt : ∀ p ∈ G.T, Fh p.1 = none := fun p hp => if_pos (hT p hp)
    have hS2 : SqL K Fh a (ns.map V.int) := by
      have out : (∀ q, H a ≠ some (.tbl q)) → Fh a = H a := fun hne => if_neg fun z => hne _ (tT a z)
      rcases hS with (e | ⟨o, e⟩) | r
      · exact .inl (.inl (by rw [out (by rw [e]; exact fun q z => nomatch z)]; exact e))
      · exact .inl (.inr ⟨o, by rw [out (by rw [e]; exact fun q z => nomatch z)]; exact e⟩)
      · exact .inr r
    refine ⟨Fh, [.d (.scr ns)], rfl, sub, tabs_start fun p hp => tT _ (hT p hp), nt, .cons ?_ .nil, ?_⟩
    · show Rep G.K Fh (.scr ns) (.ref a)
      rw [eK]
      simp only [Rep]
      exact ⟨Nat.le_trans hl hn, a, rfl, hS2⟩
    · rw [hg ns hl hbits]
      intro v H' F' _ _ r
      have r2 : Rep G.K F' (.bl true) v := r
      simp only [Rep] at r2
      rw [r2]
      exact hQ H'
end
end DL
end
section
set_option linter.all false
set_option maxRecDepth 100000
set_option maxHeartbeats 1000000
/-! zip of two sequences, each a list or a tuple -/
namespace ZG
open PySem
open PySem.Sem (wp)
/-- an iterator over the sequence at l, told by P: k items are gone -/
structure SeqIt (prog : Program) (w : World) (it l : Addr) (xs : Array Value) (P : Heap → Nat → Prop) : Prop where
  move : ∀ {h h' : Heap} {k : Nat}, P h k → (∀ o, h.get? it = some o → h'.get? it = some o) → (∀ o, h.get? l = some o → h'.get? l = some o) → P h' k
  there : ∀ {h : Heap} {k : Nat}, P h k → ∃ o fs, h.get? it = some o ∧ o.data = .fields fs
  seq : ∀ {h : Heap} {k : Nat}, P h k → ∃ o, h.get? l = some o
  item : ∀ {A : Around} {E : Value → Shared → Prop} {s : Shared} {k : Nat} {x : Value} {Q : Value → Shared → Prop}, P s.heap k → xs[k]? = some x →
    (∀ h', P h' (k + 1) → Heap.SameBut it s.heap h' → Q x { s with heap := h' }) → wpAny (model prog w) A (Builtin.SmallTypes.nextOf (.ref it)) Q E s
  ends : ∀ {A : Around} {E : Value → Shared → Prop} {s : Shared} {k : Nat} {Q : Value → Shared → Prop}, A.handled = none → P s.heap k → xs[k]? = none →
    (∀ h' e, Heap.ExtBut it s.heap h' → (∃ o, h'.get? e = some o ∧ o.cls = .type "StopIteration") → E (.ref e) { s with heap := h' }) → wpAny (model prog w) A (Builtin.SmallTypes.nextOf (.ref it)) Q E s
section
variable {prog : Program} {w : World}
abbrev LIt (it l : Addr) (xs : Array Value) (h : Heap) (k : Nat) : Prop := h.IsListIter it l k ∧ h.IsList l xs
abbrev TIt (it l : Addr) (xs : Array Value) (h : Heap) (k : Nat) : Prop := h.IsTupleIter it l k ∧ h.IsTuple l xs
theorem seqList {it l : Addr} {xs : Array Value} (ne : it ≠ l) : SeqIt prog w it l xs (LIt it l xs) where
  move := fun p a b => ⟨p.1.at a, p.2.at b⟩
  there := fun p => let ⟨o, e, _, d⟩ := p.1; ⟨o, _, e, d⟩
  seq := fun p => let ⟨o, e, _⟩ := p.2; ⟨o, e⟩
  item := fun {A E s k x Q} p ex hq => wpAny_nextOf_list_item p.1 p.2 ex fun h' a b => hq h' ⟨a, p.2.at fun o e => b.extBut _ _ (Ne.symm ne) e⟩ b
  ends := fun {A E s k Q} hh p ex hq => wpAny_nextOf_list_end hh p.1 p.2 ex fun h' e a b => hq h' e a b
theorem seqTuple {it l : Addr} {xs : Array Value} (ne : it ≠ l) : SeqIt prog w it l xs (TIt it l xs) where
  move := fun p a b => ⟨p.1.at a, p.2.at b⟩
  there := fun p => let ⟨o, e, _, d⟩ := p.1; ⟨o, _, e, d⟩
  seq := fun p => let ⟨o, e, _⟩ := p.2; ⟨o, e⟩
  item := fun {A E s k x Q} p ex hq => RZ.nextOf_tuple_item p.1 p.2 ex fun h' a b => hq h' ⟨a, p.2.at fun o e => b.extBut _ _ (Ne.symm ne) e⟩ b
  ends := fun {A E s k Q} hh p ex hq => RZ.nextOf_tuple_end hh p.1 p.2 ex fun h' e a b => hq h' e a b
end
section
variable {prog : Program} {w : World} {A : Around} {E : Value → Shared → Prop} {s : Shared} {z TI TO i1 i2 l1 l2 : Addr} {k : Nat} {xs ys : Array Value} {P1 P2 : Heap → Nat → Prop}
/-- one more pair, the zip's own tuple at hand -/
theorem nextFree {x y a b : Value} {Q : Value → Shared → Prop} (S1 : SeqIt prog w i1 l1 xs P1) (S2 : SeqIt prog w i2 l2 ys P2) (D : ZipApart z TI TO i1 i2 l1 l2)
    (gz : IsZip s.heap z TI TO .none) (gI : IsPair s.heap TI (.ref i1) (.ref i2)) (gO : IsPair s.heap TO a b) (p1 : P1 s.heap k) (p2 : P2 s.heap k) (ex : xs[k]? = some x) (ey : ys[k]? = some y)
    (q : ∀ h', IsZip h' z TI TO (rawInt s.heap.objs.size) → IsPair h' TO x y → P1 h' (k + 1) → P2 h' (k + 1) → IsPair h' s.heap.objs.size x y → h'.objs.size = s.heap.objs.size + 1 →
      (∀ c o, c ≠ z → c ≠ TO → c ≠ i1 → c ≠ i2 → s.heap.get? c = some o → h'.get? c = some o) → Q (.ref s.heap.objs.size) { s with heap := h' }) :
    wpAny (model prog w) A (Builtin.«zip.__next__» ⟨[.ref z], []⟩) (fun fin s' => ∃ v, fin = .done (.ret v) ∧ Q v s') E s := by
  show wpAny _ _ (field (.ref z) 2 >>= _) _ _ _
  refine wpAny_bind (wpAny_field gz rfl (x := .bool false) rfl ?_)
  show wpAny _ _ (field (.ref z) 3 >>= _) _ _ _
  refine wpAny_bind (wpAny_field gz rfl (x := .ref TI) rfl ?_)
  refine wpAny_bind (wpAny_seqItems gI rfl ?_)
  refine wpAny_bind (m := Builtin.SmallTypes.ownedTupleIsFree (.ref z)) ?_
  unfold Builtin.SmallTypes.ownedTupleIsFree
  refine wpAny_bind (wpAny_field gz rfl (x := .none) rfl (wpAny_pure ?_))
  simp only [if_true]
  refine wpAny_bind (wpAny_rule ?_)
  refine wpAny_bind (wpAny_field gz rfl (x := .ref TO) rfl ?_)
  refine wpAny_bind (wpAny_setField_rec gz (by simp) fun u1 z1 b1 => ?_)
  replace z1 : IsZip u1 z TI TO .ellipsis := z1
  refine wpAny_bind ?_
  simp only [List.zipIdx_cons, List.zipIdx_nil, List.forIn_cons, List.forIn_nil]
  have m1 := b1.extBut
  have q1 : P1 u1 k := S1.move p1 (fun o e => m1 _ _ D.i1z e) fun o e => m1 _ _ D.l1z e
  have q2 : P2 u1 k := S2.move p2 (fun o e => m1 _ _ D.i2z e) fun o e => m1 _ _ D.l2z e
  refine wpAny_bind (wpAny_bind (wpAny_onRaise ?_))
  refine wpAny_bind (m := Builtin.SmallTypes.nextOf (.ref i1)) (S1.item (s := { s with heap := u1 }) q1 ex fun u2 r1 b2 => wpAny_pure ?_)
  have m2 := b2.extBut
  have o2 : IsPair u2 TO a b := m2 _ _ D.TOi1 (m1 _ _ D.TOz gO)
  have t2 : P2 u2 k := S2.move q2 (fun o e => m2 _ _ D.i12.symm e) fun o e => m2 _ _ D.l2i1 e
  refine wpAny_bind (wpAny_seqItems o2 rfl ?_)
  refine wpAny_bind (wpAny_updateSeq_pair o2 fun u3 o3 b3 => ?_)
  replace o3 : IsPair u3 TO x b := o3
  have m3 := b3.extBut
  have t3 : P2 u3 k := S2.move t2 (fun o e => m3 _ _ D.TOi2.symm e) fun o e => m3 _ _ D.l2TO e
  have r3 : P1 u3 (k + 1) := S1.move r1 (fun o e => m3 _ _ D.TOi1.symm e) fun o e => m3 _ _ D.l1TO e
  refine wpAny_bind (wpAny_letGo (wpAny_pure ?_))
  refine wpAny_bind (wpAny_bind (wpAny_onRaise ?_))
  refine wpAny_bind (m := Builtin.SmallTypes.nextOf (.ref i2)) (S2.item (s := { s with heap := u3 }) t3 ey fun u4 t4 b4 => wpAny_pure ?_)
  have m4 := b4.extBut
  have o4 : IsPair u4 TO x b := m4 _ _ D.TOi2 o3
  have r4 : P1 u4 (k + 1) := S1.move r3 (fun o e => m4 _ _ D.i12 e) fun o e => m4 _ _ D.l1i2 e
  refine wpAny_bind (wpAny_seqItems o4 rfl ?_)
  refine wpAny_bind (wpAny_updateSeq_pair o4 fun u5 o5 b5 => ?_)
  replace o5 : IsPair u5 TO x y := o5
  have m5 := b5.extBut
  have r5 : P1 u5 (k + 1) := S1.move r4 (fun o e => m5 _ _ D.TOi1.symm e) fun o e => m5 _ _ D.l1TO e
  have t5 : P2 u5 (k + 1) := S2.move t4 (fun o e => m5 _ _ D.TOi2.symm e) fun o e => m5 _ _ D.l2TO e
  refine wpAny_bind (wpAny_letGo (wpAny_pure (wpAny_pure ?_)))
  refine wpAny_bind (wpAny_seqItems o5 rfl ?_)
  refine wpAny_bind (wpAny_newTuple ?_)
  have sz : u5.objs.size = s.heap.objs.size := by rw [b5.1, b4.1, b3.1, b2.1, b1.1]
  have z5 : IsZip u5 z TI TO .ellipsis := m5 _ _ D.TOz.symm (m4 _ _ D.i2z.symm (m3 _ _ D.TOz.symm (m2 _ _ D.i1z.symm z1)))
  have all5 : ∀ c o, c ≠ z → c ≠ TO → c ≠ i1 → c ≠ i2 → s.heap.get? c = some o → u5.get? c = some o := fun c o n1 n2 n3 n4 e =>
    m5 _ _ n2 (m4 _ _ n4 (m3 _ _ n2 (m2 _ _ n3 (m1 _ _ n1 e))))
  have zlt : z < u5.objs.size := Heap.lt_size z5
  refine wpAny_bind (m := Builtin.SmallTypes.ownedTupleHandOut (.ref z) (.ref u5.objs.size)) ?_
  unfold Builtin.SmallTypes.ownedTupleHandOut
  have z6 : IsZip (u5.push { cls := .type "tuple", data := .seq #[x, y] }) z TI TO .ellipsis := Heap.get?_push_of_some _ z5
  refine wpAny_bind (wpAny_setField_rec z6 (by simp) fun u7 z7 b7 => ?_)
  replace z7 : IsZip u7 z TI TO (rawInt u5.objs.size) := z7
  refine wpAny_setField_rec z7 (by simp) fun u8 z8 b8 => ?_
  replace z8 : IsZip u8 z TI TO (rawInt u5.objs.size) := z8
  have up : ∀ c o, c ≠ z → u5.get? c = some o → u8.get? c = some o := fun c o n e => b8.extBut _ _ n (b7.extBut _ _ n (Heap.get?_push_of_some _ e))
  have T8 : IsPair u8 u5.objs.size x y := b8.extBut _ _ (Nat.ne_of_gt zlt) (b7.extBut _ _ (Nat.ne_of_gt zlt) (Heap.get?_push_size _ rfl))
  have sz8 : u8.objs.size = u5.objs.size + 1 := by rw [b8.1, b7.1, Heap.size_push]
  rw [sz] at z8 T8 sz8
  refine wpAny_pure ⟨_, rfl, ?_⟩
  show Q (.ref u5.objs.size) _
  rw [sz]
  exact q u8 z8 (up _ _ D.TOz o5) (S1.move r5 (fun o e => up _ o D.i1z e) fun o e => up _ o D.l1z e) (S2.move t5 (fun o e => up _ o D.i2z e) fun o e => up _ o D.l2z e) T8 sz8 fun c o n1 n2 n3 n4 e => up c o n1 (all5 c o n1 n2 n3 n4 e)
/-- no more, the zip's own tuple at hand -/
theorem endFree {a b : Value} {Q : Fin → Shared → Prop} (hh : A.handled = none) (S1 : SeqIt prog w i1 l1 xs P1) (S2 : SeqIt prog w i2 l2 ys P2) (D : ZipApart z TI TO i1 i2 l1 l2)
    (gz : IsZip s.heap z TI TO .none) (gI : IsPair s.heap TI (.ref i1) (.ref i2)) (gO : IsPair s.heap TO a b) (p1 : P1 s.heap k) (p2 : P2 s.heap k) (no : xs[k]? = none ∨ ys[k]? = none)
    (q : ∀ h' e, (∀ c o, c ≠ z → c ≠ TO → c ≠ i1 → c ≠ i2 → s.heap.get? c = some o → h'.get? c = some o) → (∃ o, h'.get? e = some o ∧ o.cls = .type "StopIteration") → E (.ref e) { s with heap := h' }) :
    wpAny (model prog w) A (Builtin.«zip.__next__» ⟨[.ref z], []⟩) Q E s := by
  show wpAny _ _ (field (.ref z) 2 >>= _) _ _ _
  refine wpAny_bind (wpAny_field gz rfl (x := .bool false) rfl ?_)
  show wpAny _ _ (field (.ref z) 3 >>= _) _ _ _
  refine wpAny_bind (wpAny_field gz rfl (x := .ref TI) rfl ?_)
  refine wpAny_bind (wpAny_seqItems gI rfl ?_)
  refine wpAny_bind (m := Builtin.SmallTypes.ownedTupleIsFree (.ref z)) ?_
  unfold Builtin.SmallTypes.ownedTupleIsFree
  refine wpAny_bind (wpAny_field gz rfl (x := .none) rfl (wpAny_pure ?_))
  simp only [if_true]
  refine wpAny_bind (wpAny_rule ?_)
  refine wpAny_bind (wpAny_field gz rfl (x := .ref TO) rfl ?_)
  refine wpAny_bind (wpAny_setField_rec gz (by simp) fun u1 z1 b1 => ?_)
  replace z1 : IsZip u1 z TI TO .ellipsis := z1
  refine wpAny_bind ?_
  simp only [List.zipIdx_cons, List.zipIdx_nil, List.forIn_cons, List.forIn_nil]
  have m1 := b1.extBut
  have q1 : P1 u1 k := S1.move p1 (fun o e => m1 _ _ D.i1z e) fun o e => m1 _ _ D.l1z e
  have q2 : P2 u1 k := S2.move p2 (fun o e => m1 _ _ D.i2z e) fun o e => m1 _ _ D.l2z e
  refine wpAny_bind (wpAny_bind (wpAny_onRaise ?_))
  cases ex : xs[k]? with
  | none =>
    refine wpAny_bind (m := Builtin.SmallTypes.nextOf (.ref i1)) (S1.ends (s := { s with heap := u1 }) hh q1 ex fun u2 e b2 he => ?_)
    obtain ⟨oe, g1, g2⟩ := he
    have z2 : IsZip u2 z TI TO .ellipsis := b2 _ _ D.i1z.symm z1
    have ne : e ≠ z := fun w => by subst w; rw [z2] at g1; cases g1; simp at g2
    exact wpAny_setField_rec z2 (by simp) fun u3 _ b3 => q u3 e (fun c o n1 _ n3 _ w => b3.extBut _ _ n1 (b2 _ _ n3 (m1 _ _ n1 w))) ⟨oe, b3.extBut _ _ ne g1, g2⟩
  | some x =>
    have ey : ys[k]? = none := by rcases no with h | h; rw [ex] at h; cases h; exact h
    refine wpAny_bind (m := Builtin.SmallTypes.nextOf (.ref i1)) (S1.item (s := { s with heap := u1 }) q1 ex fun u2 r1 b2 => wpAny_pure ?_)
    have m2 := b2.extBut
    have o2 : IsPair u2 TO a b := m2 _ _ D.TOi1 (m1 _ _ D.TOz gO)
    have t2 : P2 u2 k := S2.move q2 (fun o e => m2 _ _ D.i12.symm e) fun o e => m2 _ _ D.l2i1 e
    refine wpAny_bind (wpAny_seqItems o2 rfl ?_)
    refine wpAny_bind (wpAny_updateSeq_pair o2 fun u3 o3 b3 => ?_)
    have m3 := b3.extBut
    have t3 : P2 u3 k := S2.move t2 (fun o e => m3 _ _ D.TOi2.symm e) fun o e => m3 _ _ D.l2TO e
    refine wpAny_bind (wpAny_letGo (wpAny_pure ?_))
    refine wpAny_bind (wpAny_bind (wpAny_onRaise ?_))
    refine wpAny_bind (m := Builtin.SmallTypes.nextOf (.ref i2)) (S2.ends (s := { s with heap := u3 }) hh t3 ey fun u4 e b4 he => ?_)
    obtain ⟨oe, g1, g2⟩ := he
    have z4 : IsZip u4 z TI TO .ellipsis := b4 _ _ D.i2z.symm (m3 _ _ D.TOz.symm (m2 _ _ D.i1z.symm z1))
    have ne : e ≠ z := fun w => by subst w; rw [z4] at g1; cases g1; simp at g2
    exact wpAny_setField_rec z4 (by simp) fun u5 _ b5 => q u5 e (fun c o n1 n2 n3 n4 w => b5.extBut _ _ n1 (b4 _ _ n4 (m3 _ _ n2 (m2 _ _ n3 (m1 _ _ n1 w))))) ⟨oe, b5.extBut _ _ ne g1, g2⟩
/-- one more pair, the tuple T that was given is still out -/
theorem nextHeld {T : Addr} {f : Bool} {oT : Obj} {x y : Value} {Q : Value → Shared → Prop} (S1 : SeqIt prog w i1 l1 xs P1) (S2 : SeqIt prog w i2 l2 ys P2) (D : ZipApart z TI TO i1 i2 l1 l2)
    (gz : IsZipHeld s.heap z TI TO T f) (gT : s.heap.get? T = some oT) (gI : IsPair s.heap TI (.ref i1) (.ref i2)) (p1 : P1 s.heap k) (p2 : P2 s.heap k) (ex : xs[k]? = some x) (ey : ys[k]? = some y)
    (q : ∀ h', IsZipHeld h' z TI TO T true → P1 h' (k + 1) → P2 h' (k + 1) → IsPair h' s.heap.objs.size x y → h'.objs.size = s.heap.objs.size + 1 →
      (∀ c o, c ≠ z → c ≠ i1 → c ≠ i2 → s.heap.get? c = some o → h'.get? c = some o) → Q (.ref s.heap.objs.size) { s with heap := h' }) :
    wpAny (model prog w) A (Builtin.«zip.__next__» ⟨[.ref z], []⟩) (fun fin s' => ∃ v, fin = .done (.ret v) ∧ Q v s') E s := by
  show wpAny _ _ (field (.ref z) 2 >>= _) _ _ _
  refine wpAny_bind (wpAny_field gz rfl (x := .bool false) rfl ?_)
  show wpAny _ _ (field (.ref z) 3 >>= _) _ _ _
  refine wpAny_bind (wpAny_field gz rfl (x := .ref TI) rfl ?_)
  refine wpAny_bind (wpAny_seqItems gI rfl ?_)
  refine wpAny_bind (m := Builtin.SmallTypes.ownedTupleIsFree (.ref z)) (wpAny_tupleHeld_zip gz gT fun u1 z1 b1 => ?_)
  simp only [Bool.false_eq_true, if_false]
  refine wpAny_bind ?_
  rw [← Array.forIn_toList]
  simp only [List.forIn_cons, List.forIn_nil]
  have m1 := b1.extBut
  have q1 : P1 u1 k := S1.move p1 (fun o e => m1 _ _ D.i1z e) fun o e => m1 _ _ D.l1z e
  have q2 : P2 u1 k := S2.move p2 (fun o e => m1 _ _ D.i2z e) fun o e => m1 _ _ D.l2z e
  refine wpAny_bind (wpAny_bind (wpAny_holding ?_))
  refine wpAny_bind (m := Builtin.SmallTypes.nextOf (.ref i1)) (S1.item (s := { s with heap := u1 }) q1 ex fun u2 r1 b2 => wpAny_pure (wpAny_pure ?_))
  have m2 := b2.extBut
  have t2 : P2 u2 k := S2.move q2 (fun o e => m2 _ _ D.i12.symm e) fun o e => m2 _ _ D.l2i1 e
  refine wpAny_bind (wpAny_bind (wpAny_holding ?_))
  refine wpAny_bind (m := Builtin.SmallTypes.nextOf (.ref i2)) (S2.item (s := { s with heap := u2 }) t2 ey fun u3 t3 b3 => wpAny_pure (wpAny_pure (wpAny_pure ?_)))
  have m3 := b3.extBut
  have r3 : P1 u3 (k + 1) := S1.move r1 (fun o e => m3 _ _ D.i12 e) fun o e => m3 _ _ D.l1i2 e
  refine wpAny_bind (m := newTuple [x, y]) (wpAny_newTuple ?_)
  have sz : u3.objs.size = s.heap.objs.size := by rw [b3.1, b2.1, b1.1]
  have z3 : IsZipHeld u3 z TI TO T true := m3 _ _ D.i2z.symm (m2 _ _ D.i1z.symm z1)
  have all3 : ∀ c o, c ≠ z → c ≠ i1 → c ≠ i2 → s.heap.get? c = some o → u3.get? c = some o := fun c o n1 n2 n3 e => m3 _ _ n3 (m2 _ _ n2 (m1 _ _ n1 e))
  refine wpAny_pure ⟨_, rfl, ?_⟩
  show Q (.ref u3.objs.size) _
  have up : ∀ {c o}, u3.get? c = some o → (u3.push { cls := .type "tuple", data := .seq #[x, y] }).get? c = some o := fun e => Heap.get?_push_of_some _ e
  have T4 : IsPair (u3.push { cls := .type "tuple", data := .seq #[x, y] }) u3.objs.size x y := Heap.get?_push_size _ rfl
  have sz4 : (u3.push { cls := .type "tuple", data := .seq #[x, y] }).objs.size = u3.objs.size + 1 := Heap.size_push ..
  rw [sz] at T4 sz4 ⊢
  exact q _ (up z3) (S1.move r3 (fun o e => up e) fun o e => up e) (S2.move t3 (fun o e => up e) fun o e => up e) T4 sz4 fun c o n1 n2 n3 e => up (all3 c o n1 n2 n3 e)
/-- no more, the tuple T is still out -/
theorem endHeld {T : Addr} {f : Bool} {oT : Obj} {Q : Fin → Shared → Prop} (hh : A.handled = none) (S1 : SeqIt prog w i1 l1 xs P1) (S2 : SeqIt prog w i2 l2 ys P2) (D : ZipApart z TI TO i1 i2 l1 l2)
    (gz : IsZipHeld s.heap z TI TO T f) (gT : s.heap.get? T = some oT) (gI : IsPair s.heap TI (.ref i1) (.ref i2)) (p1 : P1 s.heap k) (p2 : P2 s.heap k) (no : xs[k]? = none ∨ ys[k]? = none)
    (q : ∀ h' e, (∀ c o, c ≠ z → c ≠ i1 → c ≠ i2 → s.heap.get? c = some o → h'.get? c = some o) → (∃ o, h'.get? e = some o ∧ o.cls = .type "StopIteration") → E (.ref e) { s with heap := h' }) :
    wpAny (model prog w) A (Builtin.«zip.__next__» ⟨[.ref z], []⟩) Q E s := by
  show wpAny _ _ (field (.ref z) 2 >>= _) _ _ _
  refine wpAny_bind (wpAny_field gz rfl (x := .bool false) rfl ?_)
  show wpAny _ _ (field (.ref z) 3 >>= _) _ _ _
  refine wpAny_bind (wpAny_field gz rfl (x := .ref TI) rfl ?_)
  refine wpAny_bind (wpAny_seqItems gI rfl ?_)
  refine wpAny_bind (m := Builtin.SmallTypes.ownedTupleIsFree (.ref z)) (wpAny_tupleHeld_zip gz gT fun u1 z1 b1 => ?_)
  simp only [Bool.false_eq_true, if_false]
  refine wpAny_bind ?_
  rw [← Array.forIn_toList]
  simp only [List.forIn_cons, List.forIn_nil]
  have m1 := b1.extBut
  have q1 : P1 u1 k := S1.move p1 (fun o e => m1 _ _ D.i1z e) fun o e => m1 _ _ D.l1z e
  have q2 : P2 u1 k := S2.move p2 (fun o e => m1 _ _ D.i2z e) fun o e => m1 _ _ D.l2z e
  refine wpAny_bind (wpAny_bind (wpAny_holding ?_))
  cases ex : xs[k]? with
  | none =>
    exact wpAny_bind (m := Builtin.SmallTypes.nextOf (.ref i1)) (S1.ends (s := { s with heap := u1 }) hh q1 ex fun u2 e b2 he => q u2 e (fun c o n1 n2 _ w => b2 _ _ n2 (m1 _ _ n1 w)) he)
  | some x =>
    have ey : ys[k]? = none := by rcases no with h | h; rw [ex] at h; cases h; exact h
    refine wpAny_bind (m := Builtin.SmallTypes.nextOf (.ref i1)) (S1.item (s := { s with heap := u1 }) q1 ex fun u2 r1 b2 => wpAny_pure (wpAny_pure ?_))
    have m2 := b2.extBut
    have t2 : P2 u2 k := S2.move q2 (fun o e => m2 _ _ D.i12.symm e) fun o e => m2 _ _ D.l2i1 e
    refine wpAny_bind (wpAny_bind (wpAny_holding ?_))
    exact wpAny_bind (m := Builtin.SmallTypes.nextOf (.ref i2)) (S2.ends (s := { s with heap := u2 }) hh t2 ey fun u3 e b3 he => q u3 e (fun c o n1 n2 n3 w => b3 _ _ n3 (m2 _ _ n2 (m1 _ _ n1 w))) he)
end
end ZG
end
section
set_option linter.all false
set_option maxRecDepth 100000
set_option maxHeartbeats 1000000
/-! zip made of two sequences; dict(zip(a, b)) -/
namespace ZG
open PySem
open PySem.Sem (wp)
/-- the sequence at l: true: a tuple, false: a list -/
abbrev SqB : Bool → Heap → Addr → Array Value → Prop
  | true, h, l, xs => h.IsTuple l xs
  | false, h, l, xs => h.IsList l xs
abbrev ItB : Bool → Addr → Addr → Array Value → Heap → Nat → Prop
  | true => TIt
  | false => LIt
abbrev clsB (b : Bool) : String := match b with | true => "tuple_iterator" | false => "list_iterator"
theorem seqB {prog : Program} {w : World} {it l : Addr} {xs : Array Value} (b : Bool) (ne : it ≠ l) : SeqIt prog w it l xs (ItB b it l xs) := by
  cases b
  · exact seqList ne
  · exact seqTuple ne
theorem SqB.lt {b : Bool} {h : Heap} {l : Addr} {xs : Array Value} (p : SqB b h l xs) : l < h.objs.size := by
  cases b <;> exact (let ⟨_, e, _⟩ := p; Heap.lt_size e)
theorem SqB.move {b : Bool} {h h' : Heap} {l : Addr} {xs : Array Value} (p : SqB b h l xs) (k : ∀ o, h.get? l = some o → h'.get? l = some o) : SqB b h' l xs := by
  cases b <;> exact p.at k
abbrev nw1 (b : Bool) (h : Heap) (l : Addr) : Heap := h.push { cls := .type (clsB b), data := .fields #[.ref l, .int 0 0] }
abbrev nw2 (b c : Bool) (h : Heap) (l m : Addr) : Heap := (nw1 b h l).push { cls := .type (clsB c), data := .fields #[.ref m, .int 0 0] }
abbrev nw3 (b c : Bool) (h : Heap) (l m : Addr) : Heap := (nw2 b c h l m).push { cls := .type "tuple", data := .seq #[.ref h.objs.size, .ref (nw1 b h l).objs.size] }
abbrev nw4 (b c : Bool) (h : Heap) (l m : Addr) : Heap := (nw3 b c h l m).push { cls := .type "tuple", data := .seq #[.none, .none] }
abbrev nw5 (b c : Bool) (h : Heap) (l m : Addr) : Heap := (nw4 b c h l m).push { cls := .type "zip", data := .fields #[.none, .bool false, .bool false, .ref (nw2 b c h l m).objs.size, .ref (nw3 b c h l m).objs.size] }
theorem made (b c : Bool) (l m : Addr) (xs ys : Array Value) :
    Meets (Builtin.«zip.__new__» ⟨[.type "zip", .ref l, .ref m], []⟩) (fun _ R s => SqB b s.heap l xs ∧ SqB c s.heap m ys ∧
      R (.ok (.ret (.ref (nw4 b c s.heap l m).objs.size))) { s with heap := nw5 b c s.heap l m }) :=
  .of_wp fun prog w A R s h => by
    obtain ⟨hp, g, d, tk, os⟩ := s; obtain ⟨pl, pm, h⟩ := h
    have hsub := sub_zip
    cases b with
    | false =>
      cases c with
      | false =>
        have t1 : Heap.IsList (Shared.heap ⟨hp, g, d, tk, os⟩) l xs := pl
        have t2 : Heap.IsList (Shared.heap ⟨hp.push { cls := .type "list_iterator", data := .fields #[.ref l, .int 0 0] }, g, d, tk, os⟩) m ys := Heap.IsList.push pm _
        wp_walk using wpAny_pyIter_list t1, wpAny_pyIter_list t2
        exact ⟨_, rfl, h⟩
      | true =>
        have t1 : Heap.IsList (Shared.heap ⟨hp, g, d, tk, os⟩) l xs := pl
        have t2 : Heap.IsTuple (Shared.heap ⟨hp.push { cls := .type "list_iterator", data := .fields #[.ref l, .int 0 0] }, g, d, tk, os⟩) m ys := Heap.IsTuple.push pm _
        wp_walk using wpAny_pyIter_list t1, wpAny_pyIter_tuple t2
        exact ⟨_, rfl, h⟩
    | true =>
      cases c with
      | false =>
        have t1 : Heap.IsTuple (Shared.heap ⟨hp, g, d, tk, os⟩) l xs := pl
        have t2 : Heap.IsList (Shared.heap ⟨hp.push { cls := .type "tuple_iterator", data := .fields #[.ref l, .int 0 0] }, g, d, tk, os⟩) m ys := Heap.IsList.push pm _
        wp_walk using wpAny_pyIter_tuple t1, wpAny_pyIter_list t2
        exact ⟨_, rfl, h⟩
      | true =>
        have t1 : Heap.IsTuple (Shared.heap ⟨hp, g, d, tk, os⟩) l xs := pl
        have t2 : Heap.IsTuple (Shared.heap ⟨hp.push { cls := .type "tuple_iterator", data := .fields #[.ref l, .int 0 0] }, g, d, tk, os⟩) m ys := Heap.IsTuple.push pm _
        wp_walk using wpAny_pyIter_tuple t1, wpAny_pyIter_tuple t2
        exact ⟨_, rfl, h⟩
section
variable {prog : Program} {w : World} {A : Around} {E : Value → Shared → Prop} {s : Shared}
theorem itB0 {b : Bool} {h : Heap} {it l : Addr} {xs : Array Value} (e : h.get? it = some { cls := .type (clsB b), data := .fields #[.ref l, .int 0 0] }) (p : SqB b h l xs) : ItB b it l xs h 0 := by
  cases b <;> exact ⟨⟨_, e, rfl, rfl⟩, p⟩
theorem callZip {b c : Bool} {l m : Addr} {xs ys : Array Value} {Q : Value → Shared → Prop} (pl : SqB b s.heap l xs) (pm : SqB c s.heap m ys)
    (h : ∀ h', IsZip h' (s.heap.objs.size + 4) (s.heap.objs.size + 2) (s.heap.objs.size + 3) .none → IsPair h' (s.heap.objs.size + 2) (.ref s.heap.objs.size) (.ref (s.heap.objs.size + 1)) →
      IsPair h' (s.heap.objs.size + 3) .none .none → ItB b s.heap.objs.size l xs h' 0 → ItB c (s.heap.objs.size + 1) m ys h' 0 → h'.objs.size = s.heap.objs.size + 5 →
      (∀ c o, s.heap.get? c = some o → h'.get? c = some o) → Q (.ref (s.heap.objs.size + 4)) { s with heap := h' }) :
    wpAny (model prog w) A (call (.type "zip") [.ref l, .ref m]) Q E s := by
  refine callType_new F.called_zip (by decide) (F.typeCall_zip_2 _ _) (F.newCall_zip_2 _ _) (fun obj => F.args_object_init_3 obj _ _) F.entry_zip_new
    (made b c l m xs ys) ⟨pl, pm, ?_⟩
  have n1 : (nw1 b s.heap l).objs.size = s.heap.objs.size + 1 := Heap.size_push ..
  have n2 : (nw2 b c s.heap l m).objs.size = s.heap.objs.size + 2 := by rw [Heap.size_push, n1]
  have n3 : (nw3 b c s.heap l m).objs.size = s.heap.objs.size + 3 := by rw [Heap.size_push, n2]
  have n4 : (nw4 b c s.heap l m).objs.size = s.heap.objs.size + 4 := by rw [Heap.size_push, n3]
  have n5 : (nw5 b c s.heap l m).objs.size = s.heap.objs.size + 5 := by rw [Heap.size_push, n4]
  have up {h : Heap} {n : Obj} {a : Addr} {o : Obj} (e : h.get? a = some o) : (h.push n).get? a = some o := Heap.get?_push_of_some _ e
  have g5 : (nw5 b c s.heap l m).get? (nw4 b c s.heap l m).objs.size = some _ := Heap.get?_push_size _ rfl
  have g4 : (nw5 b c s.heap l m).get? (nw3 b c s.heap l m).objs.size = some _ := up (Heap.get?_push_size _ rfl)
  have g3 : (nw5 b c s.heap l m).get? (nw2 b c s.heap l m).objs.size = some _ := up (up (Heap.get?_push_size _ rfl))
  have g2 : (nw5 b c s.heap l m).get? (nw1 b s.heap l).objs.size = some _ := up (up (up (Heap.get?_push_size _ rfl)))
  have g1 : (nw5 b c s.heap l m).get? s.heap.objs.size = some _ := up (up (up (up (Heap.get?_push_size _ rfl))))
  have all : ∀ a o, s.heap.get? a = some o → (nw5 b c s.heap l m).get? a = some o := fun a o e => up (up (up (up (up e))))
  show _ ∧ _
  rw [n2, n3, n4] at g5
  rw [n1, n2] at g3
  rw [n3] at g4
  rw [n1] at g2
  rw [n4]
  exact ⟨⟨_, g5, rfl⟩, h _ g5 g3 g4 (itB0 g1 (pl.move fun o e => all _ o e)) (itB0 g2 (pm.move fun o e => all _ o e)) n5 all⟩
end
section
variable {prog : Program} {w : World} {A : Around} {E : Value → Shared → Prop} {s : Shared} {z TI TO i1 i2 l1 l2 : Addr} {k : Nat} {xs ys : Array Value} {P1 P2 : Heap → Nat → Prop}
theorem pyFree {x y a b : Value} {Q : Option Value → Shared → Prop} (S1 : SeqIt prog w i1 l1 xs P1) (S2 : SeqIt prog w i2 l2 ys P2) (D : ZipApart z TI TO i1 i2 l1 l2)
    (gz : IsZip s.heap z TI TO .none) (gI : IsPair s.heap TI (.ref i1) (.ref i2)) (gO : IsPair s.heap TO a b) (p1 : P1 s.heap k) (p2 : P2 s.heap k) (ex : xs[k]? = some x) (ey : ys[k]? = some y)
    (q : ∀ h', IsZip h' z TI TO (rawInt s.heap.objs.size) → IsPair h' TO x y → P1 h' (k + 1) → P2 h' (k + 1) → IsPair h' s.heap.objs.size x y → h'.objs.size = s.heap.objs.size + 1 →
      (∀ c o, c ≠ z → c ≠ TO → c ≠ i1 → c ≠ i2 → s.heap.get? c = some o → h'.get? c = some o) → Q (some (.ref s.heap.objs.size)) { s with heap := h' }) :
    wpAny (model prog w) A (pyNext (.ref z)) Q E s := by
  have ty : s.TypeIs (.ref z) "zip" := ⟨_, gz, rfl⟩
  unfold pyNext
  exact wpAny_bind (wpAny_attempt (wpAny_callSpecial?_slot (name := Str.ofString "__next__") ty F.slot_zip_next
    (wpAny_call_entry F.slot_zip_next ty F.entry_zip_next (nextFree S1 S2 D gz gI gO p1 p2 ex ey fun h' a1 a2 a3 a4 a5 a6 a7 => wpAny_pure (q h' a1 a2 a3 a4 a5 a6 a7)) (F.args_zip_next_1 _))))
theorem pyFreeEnd {a b : Value} {Q : Option Value → Shared → Prop} (hh : A.handled = none) (S1 : SeqIt prog w i1 l1 xs P1) (S2 : SeqIt prog w i2 l2 ys P2) (D : ZipApart z TI TO i1 i2 l1 l2)
    (gz : IsZip s.heap z TI TO .none) (gI : IsPair s.heap TI (.ref i1) (.ref i2)) (gO : IsPair s.heap TO a b) (p1 : P1 s.heap k) (p2 : P2 s.heap k) (no : xs[k]? = none ∨ ys[k]? = none)
    (q : ∀ h', (∀ c o, c ≠ z → c ≠ TO → c ≠ i1 → c ≠ i2 → s.heap.get? c = some o → h'.get? c = some o) → Q none { s with heap := h' }) : wpAny (model prog w) A (pyNext (.ref z)) Q E s := by
  have ty : s.TypeIs (.ref z) "zip" := ⟨_, gz, rfl⟩
  unfold pyNext
  refine wpAny_bind (wpAny_attempt (wpAny_callSpecial?_slot (name := Str.ofString "__next__") ty F.slot_zip_next
    (wpAny_call_entry F.slot_zip_next ty F.entry_zip_next (endFree hh S1 S2 D gz gI gO p1 p2 no fun h' e keep he => ?_) (F.args_zip_next_1 _))))
  obtain ⟨o, e1, e2⟩ := he
  exact wpAny_bind (wpAny_isInstance (T := "StopIteration") (b := true) ⟨o, e1, e2⟩ isSubtype_stop (wpAny_pure (q _ keep)))
theorem pyHeld {T : Addr} {f : Bool} {oT : Obj} {x y : Value} {Q : Option Value → Shared → Prop} (S1 : SeqIt prog w i1 l1 xs P1) (S2 : SeqIt prog w i2 l2 ys P2) (D : ZipApart z TI TO i1 i2 l1 l2)
    (gz : IsZipHeld s.heap z TI TO T f) (gT : s.heap.get? T = some oT) (gI : IsPair s.heap TI (.ref i1) (.ref i2)) (p1 : P1 s.heap k) (p2 : P2 s.heap k) (ex : xs[k]? = some x) (ey : ys[k]? = some y)
    (q : ∀ h', IsZipHeld h' z TI TO T true → P1 h' (k + 1) → P2 h' (k + 1) → IsPair h' s.heap.objs.size x y → h'.objs.size = s.heap.objs.size + 1 →
      (∀ c o, c ≠ z → c ≠ i1 → c ≠ i2 → s.heap.get? c = some o → h'.get? c = some o) → Q (some (.ref s.heap.objs.size)) { s with heap := h' }) :
    wpAny (model prog w) A (pyNext (.ref z)) Q E s := by
  have ty : s.TypeIs (.ref z) "zip" := ⟨_, gz, rfl⟩
  unfold pyNext
  exact wpAny_bind (wpAny_attempt (wpAny_callSpecial?_slot (name := Str.ofString "__next__") ty F.slot_zip_next
    (wpAny_call_entry F.slot_zip_next ty F.entry_zip_next (nextHeld S1 S2 D gz gT gI p1 p2 ex ey fun h' a1 a3 a4 a5 a6 a7 => wpAny_pure (q h' a1 a3 a4 a5 a6 a7)) (F.args_zip_next_1 _))))
theorem pyHeldEnd {T : Addr} {f : Bool} {oT : Obj} {Q : Option Value → Shared → Prop} (hh : A.handled = none) (S1 : SeqIt prog w i1 l1 xs P1) (S2 : SeqIt prog w i2 l2 ys P2) (D : ZipApart z TI TO i1 i2 l1 l2)
    (gz : IsZipHeld s.heap z TI TO T f) (gT : s.heap.get? T = some oT) (gI : IsPair s.heap TI (.ref i1) (.ref i2)) (p1 : P1 s.heap k) (p2 : P2 s.heap k) (no : xs[k]? = none ∨ ys[k]? = none)
    (q : ∀ h', (∀ c o, c ≠ z → c ≠ i1 → c ≠ i2 → s.heap.get? c = some o → h'.get? c = some o) → Q none { s with heap := h' }) : wpAny (model prog w) A (pyNext (.ref z)) Q E s := by
  have ty : s.TypeIs (.ref z) "zip" := ⟨_, gz, rfl⟩
  unfold pyNext
  refine wpAny_bind (wpAny_attempt (wpAny_callSpecial?_slot (name := Str.ofString "__next__") ty F.slot_zip_next
    (wpAny_call_entry F.slot_zip_next ty F.entry_zip_next (endHeld hh S1 S2 D gz gT gI p1 p2 no fun h' e keep he => ?_) (F.args_zip_next_1 _))))
  obtain ⟨o, e1, e2⟩ := he
  exact wpAny_bind (wpAny_isInstance (T := "StopIteration") (b := true) ⟨o, e1, e2⟩ isSubtype_stop (wpAny_pure (q _ keep)))
end
section
variable {prog : Program} {w : World}
/-- a zip as dict()'s argument -/
theorem argZip {z TI TO i1 i2 l1 l2 : Addr} {xs ys : Array Value} {P1 P2 : Heap → Nat → Prop} (S1 : SeqIt prog w i1 l1 xs P1) (S2 : SeqIt prog w i2 l2 ys P2) (D : ZipApart z TI TO i1 i2 l1 l2) :
    PairArg prog w "zip" z [z, TI, TO, i1, i2, l1, l2] [z, TO, i1, i2] (min xs.size ys.size) (fun i k v => xs[i]? = some k ∧ ys[i]? = some v)
      (fun h => IsZip h z TI TO .none ∧ IsPair h TI (.ref i1) (.ref i2) ∧ (∃ a b, IsPair h TO a b) ∧ P1 h 0 ∧ P2 h 0) where
  type := fun s ok => ⟨_, ok.1, rfl⟩
  notDict := by decide
  keep := fun h h' ok up => by
    obtain ⟨gz, gI, ⟨a, b, gO⟩, p1, p2⟩ := ok
    exact ⟨up _ _ gz, up _ _ gI, ⟨a, b, up _ _ gO⟩, S1.move p1 (fun o e => up _ o e) fun o e => up _ o e, S2.move p2 (fun o e => up _ o e) fun o e => up _ o e⟩
  there := fun h ok b hb => by
    obtain ⟨gz, gI, ⟨a, c, gO⟩, p1, p2⟩ := ok
    obtain ⟨o1, _, e1, _⟩ := S1.there p1
    obtain ⟨o2, _, e2, _⟩ := S2.there p2
    obtain ⟨o3, e3⟩ := S1.seq p1
    obtain ⟨o4, e4⟩ := S2.seq p2
    simp only [List.mem_cons, List.not_mem_nil, or_false] at hb
    rcases hb with rfl | rfl | rfl | rfl | rfl | rfl | rfl
    all_goals first | exact ⟨_, gz⟩ | exact ⟨_, gI⟩ | exact ⟨_, gO⟩ | exact ⟨_, e1⟩ | exact ⟨_, e2⟩ | exact ⟨_, e3⟩ | exact ⟨_, e4⟩
  sub := fun b hb => by simp at hb ⊢; rcases hb with rfl | rfl | rfl | rfl <;> simp
  noKeys := fun A s Q E hA ok h => getAttrOr_miss_zip ok.1 rfl rfl rfl zip_no_keys (by decide +kernel) hA h
  iter := fun A s d Q E hA ok hd hdf h => by
    obtain ⟨gz, gI, ⟨a, b, gO⟩, p1, p2⟩ := ok
    simp only [List.mem_cons, List.not_mem_nil, or_false, not_or] at hdf
    obtain ⟨dz, dI, dO, d1, d2, d3, d4⟩ := hdf
    refine wpAny_pyIter_zip gz (h z [z, TO, i1, i2] (fun i h => IsPair h TI (.ref i1) (.ref i2) ∧ P1 h i ∧ P2 h i ∧
      ((IsZip h z TI TO .none ∧ ∃ a b, IsPair h TO a b) ∨ ∃ T f oT, IsZipHeld h z TI TO T f ∧ h.get? T = some oT ∧ T ≠ z ∧ T ≠ i1 ∧ T ≠ i2 ∧ T ≠ d)) s.heap s.toks ?_
      ⟨gI, p1, p2, .inl ⟨gz, a, b, gO⟩⟩ (fun _ _ e => e) fun b hb => .inl hb)
    exact {
      off := fun m => by
        simp only [List.mem_cons, List.not_mem_nil, or_false] at m
        rcases m with e | e | e | e
        · exact dz e
        · exact dO e
        · exact d1 e
        · exact d2 e
      frame := fun i g g' st up => by
        obtain ⟨gI, p1, p2, hz⟩ := st
        refine ⟨up _ _ (Ne.symm dI) gI, S1.move p1 (fun o e => up _ o (Ne.symm d1) e) (fun o e => up _ o (Ne.symm d3) e), S2.move p2 (fun o e => up _ o (Ne.symm d2) e) (fun o e => up _ o (Ne.symm d4) e), ?_⟩
        rcases hz with ⟨gz, a, b, gO⟩ | ⟨T, f, oT, gz, gT, r1, r2, r3, r4⟩
        · exact .inl ⟨up _ _ (Ne.symm dz) gz, a, b, up _ _ (Ne.symm dO) gO⟩
        · exact .inr ⟨T, f, oT, up _ _ (Ne.symm dz) gz, up _ _ r4 gT, r1, r2, r3, r4⟩
      item := fun i t Q' E' hi st lt q => by
        obtain ⟨gI, p1, p2, hz⟩ := st
        have ex := Array.getElem?_eq_getElem (xs := xs) (i := i) (by omega)
        have ey := Array.getElem?_eq_getElem (xs := ys) (i := i) (by omega)
        have big : ∀ {c o}, t.heap.get? c = some o → t.heap.objs.size ≠ c := fun e => Nat.ne_of_gt (Heap.lt_size e)
        have n1 : t.heap.objs.size ≠ i1 := let ⟨_, _, e, _⟩ := S1.there p1; big e
        have n2 : t.heap.objs.size ≠ i2 := let ⟨_, _, e, _⟩ := S2.there p2; big e
        rcases hz with ⟨gz, a, b, gO⟩ | ⟨T, f, oT, gz, gT, r1, r2, r3, r4⟩
        · refine pyFree S1 S2 D gz gI gO p1 p2 ex ey fun h' a1 a2 a3 a4 a5 a6 up => ?_
          exact q t.heap.objs.size _ _ h' t.toks ⟨ex, ey⟩ (.inl ⟨_, a5, rfl, _, rfl⟩)
            ⟨up _ _ D.TIz D.TITO D.TIi1 D.TIi2 gI, a3, a4, .inr ⟨t.heap.objs.size, false, _, a1, a5, big gz, n1, n2, Nat.ne_of_gt lt⟩⟩
            fun c o hc e => up c o (fun x => hc (by simp [x])) (fun x => hc (by simp [x])) (fun x => hc (by simp [x])) (fun x => hc (by simp [x])) e
        · refine pyHeld S1 S2 D gz gT gI p1 p2 ex ey fun h' a1 a3 a4 a5 a6 up => ?_
          exact q t.heap.objs.size _ _ h' t.toks ⟨ex, ey⟩ (.inl ⟨_, a5, rfl, _, rfl⟩)
            ⟨up _ _ D.TIz D.TIi1 D.TIi2 gI, a3, a4, .inr ⟨T, true, oT, a1, up _ _ r1 r2 r3 gT, r1, r2, r3, r4⟩⟩
            fun c o hc e => up c o (fun x => hc (by simp [x])) (fun x => hc (by simp [x])) (fun x => hc (by simp [x])) e
      done := fun t Q' E' st q => by
        obtain ⟨gI, p1, p2, hz⟩ := st
        have no : xs[min xs.size ys.size]? = none ∨ ys[min xs.size ys.size]? = none := by
          by_cases c : xs.size ≤ ys.size
          · exact .inl (Array.getElem?_eq_none (by omega))
          · exact .inr (Array.getElem?_eq_none (by omega))
        rcases hz with ⟨gz, a, b, gO⟩ | ⟨T, f, oT, gz, gT, r1, r2, r3, r4⟩
        · exact pyFreeEnd hA S1 S2 D gz gI gO p1 p2 no fun h' up => q h' t.toks fun c o hc e => up c o (fun x => hc (by simp [x])) (fun x => hc (by simp [x])) (fun x => hc (by simp [x])) (fun x => hc (by simp [x])) e
        · exact pyHeldEnd hA S1 S2 D gz gT gI p1 p2 no fun h' up => q h' t.toks fun c o hc e => up c o (fun x => hc (by simp [x])) (fun x => hc (by simp [x])) (fun x => hc (by simp [x])) e }
end
end ZG
end
section
set_option linter.all false
set_option maxRecDepth 100000
set_option maxHeartbeats 1000000
/-! dict(zip(a, b)), loops over a mixed zip: the hand layer's rules -/
namespace ZG
open PySem PySem.Spec PyProof.Rows L2
/-- the tracked sequence at a -/
abbrev SqV : Bool → PySem.W.Frag → Hp → Addr → List V → Prop
  | true, K, H, a, xs => SqT K H a xs
  | false, K, H, a, xs => SqL K H a xs
section
variable {X : Cx} {pins : List (Addr × Obj)} {σ : L2.St} {H : Hp} {s : Shared}
theorem sqv_at {b : Bool} {a : Addr} {xs : List V} (I : Inv X pins σ H s) (h : SqV b X.K H a xs) : ∃ its : List Value, Vals xs its ∧ SqB b s.heap a its.toArray ∧ xs.length ≤ sizeLine := by
  cases b with
  | false => obtain ⟨its, r, p, z⟩ := I.list h; exact ⟨its, r, p.isList, z⟩
  | true => obtain ⟨its, r, p, z⟩ := I.tuple h; exact ⟨its, r, p, z⟩
theorem sqv_inj {b : Bool} {a : Addr} {xs ys : List V} (I : Inv X pins σ H s) (h : SqV b X.K H a xs) (h' : SqV b X.K H a ys) : xs = ys := by
  cases b with
  | false => exact I.list_inj h h'
  | true => exact I.tuple_inj h h'
/-- the pairs by which the dict is filled -/
theorem kv_of : ∀ {ks : List Key} {ys : List V} {us vs : List Value}, Vals (ks.map kV) us → Vals ys vs →
    ∃ prs : List (Key × Value), KV (ks.zip ys) prs ∧ prs.length = min us.length vs.length ∧ ∀ (j : Nat) (k v : Value), us[j]? = some k → vs[j]? = some v → ∃ q : Key, prs[j]? = some (q, v) ∧ (mixKind X.prog X.w).is q k = true
  | [], ys, us, vs, r, q => by
    cases r
    exact ⟨[], .nil, by simp, fun j k v e => by simp at e⟩
  | k :: ks, [], us, vs, r, q => by
    cases q
    exact ⟨[], .nil, by simp, fun j k v _ e => by simp at e⟩
  | k :: ks, y :: ys, us, vs, r, q => by
    rw [List.map_cons] at r
    cases r with
    | cons r1 r2 =>
      cases q with
      | cons q1 q2 =>
        obtain ⟨prs, a, l, g⟩ := kv_of r2 q2
        refine ⟨(k, _) :: prs, .cons ⟨rfl, q1⟩ a, by simp only [List.length_cons, l]; omega, fun j x v e1 e2 => ?_⟩
        cases j with
        | zero =>
          simp only [List.getElem?_cons_zero, Option.some.injEq] at e1 e2
          subst e1; subst e2
          exact ⟨k, rfl, kV_is r1⟩
        | succ j => simpa using g j x v (by simpa using e1) (by simpa using e2)
end
theorem pe_dictZip {X : Cx} {e e2 : Expr} {ta : TA} {p1 p2 q1 q2 : Pos} (hc : X.calm = true) (hgd : Gl X "dict") (hmd : X.mg "dict" = none) (hgz : Gl X "zip") (hmz : X.mg "zip" = none) (ha : PA X [e, e2] ta)
    (na : starEach [.Call (.Name "zip" p2) [e, e2] [] q2] X.env = (false, eval (.Call (.Name "zip" p2) [e, e2] [] q2) X.env) :: starEach [] X.env := by rfl)
    (hs : starEach [e, e2] X.env = (false, eval e X.env) :: starEach [e2] X.env := by rfl) (hpl : (backTo q2 (starEach [e2] X.env)).any (·.1) = false := by rfl) :
    PE X (.Call (.Name "dict" p1) [.Call (.Name "zip" p2) [e, e2] [] q2] [] q1) (fun σ H Q => ta σ H fun vs H1 => ∃ (a b : Addr) (k1 k2 : Bool) (ks : List Key) (ys : List V), vs = [.ref a, .ref b] ∧ SqV k1 X.K H1 a (ks.map kV) ∧ SqV k2 X.K H1 b ys ∧
      ∀ p, H1 p = none → Q (.ref p) (upd H1 p (.dK (mergeK [] (ks.zip ys))))) := by
  refine ⟨fun pins s σ H Q I h => ?_⟩
  refine Call_ (ld_blt I hgd hmd boot_dict ?_)
  refine PyProof.Rows.callWith_type1 (PyProof.Rows.args_cons ?_ na) na rfl
  refine Call_ (ld_blt I hgz hmz PyProof.Rows.boot_zip (PyProof.Rows.callWith_type1 (thn (ha.run q2 pins s σ H _ I h) fun us s1 ⟨vs, H1, I1, r1, g⟩ => ?_) hs hpl))
  obtain ⟨a, b, k1, k2, ks, ys, ex, hq1, hq2, g⟩ := g
  subst ex
  cases r1 with
  | cons ra rr =>
    cases rr with
    | cons rb rr =>
      cases rr; cases ra; cases rb
      obtain ⟨is1, v1, pl1, z1⟩ := sqv_at I1 hq1
      obtain ⟨is2, v2, pl2, z2⟩ := sqv_at I1 hq2
      have hA := I1.ok.hd hc
      refine callZip pl1 pl2 fun h' gz gI gO t1 t2 hsz up => ?_
      refine PyProof.Rows.args_nil ?_
      have la := pl1.lt
      have lb := pl2.lt
      have D := PySem.W.ktu_apart s1.heap.objs.size a b la lb
      obtain ⟨prs, kv, hl, hp⟩ := kv_of (X := X) v1 v2
      refine call_dict_pairs (knd := mixKind X.prog X.w) (kvs := prs) (argZip (seqB (it := s1.heap.objs.size) (l := a) (xs := is1.toArray) k1 (Nat.ne_of_gt la)) (seqB (it := s1.heap.objs.size + 1) (l := b) (xs := is2.toArray) k2 (Nat.ne_of_gt (Nat.lt_succ_of_lt lb))) D) hA ⟨gz, gI, ⟨_, _, gO⟩, t1, t2⟩ ⟨by simpa using hl, fun i key v rel => hp i key v (by simpa using rel.1) (by simpa using rel.2)⟩ ?_ fun h'' tk hd' keep => ?_
      · have e1 := v1.length
        simp only [List.size_toArray]
        omega
      · have old : ∀ c o, s1.heap.get? c = some o → h''.get? c = some o := fun c o e => keep c o (fun m => by
          have lt := Heap.lt_size e
          simp only [List.mem_cons, List.not_mem_nil, or_false] at m
          rcases m with q | q | q | q <;> (rw [q] at lt; first | exact Nat.lt_irrefl _ lt | exact Nat.not_lt.mpr (Nat.le_add_right _ _) lt)) (up _ _ e)
        have big : (h'.objs.size == sysModules) = false := beq_eq_false_iff_ne.mpr (Nat.ne_of_gt (Nat.lt_of_lt_of_le I1.big (by omega)))
        have len : (mergeK [] (ks.zip ys)).length ≤ sizeLine := by
          refine Nat.le_trans (length_mergeK _ []) ?_
          rw [List.length_nil, Nat.zero_add, List.length_zip]
          have := z2
          omega
        exact ⟨.ref h'.objs.size, upd H1 h'.objs.size (.dK (mergeK [] (ks.zip ys))), I1.laid (t' := tk) old (by omega) (show ObjOk X.prog X.w _ _ _ (.dK (mergeK [] (ks.zip ys))) from ⟨len, big, merged [] prs, KV.merge kv .nil, hd'⟩), rfl, g _ (I1.hok.fresh (by omega))⟩
end ZG
end
section
set_option linter.all false
set_option maxRecDepth 100000
set_option maxHeartbeats 1000000
/-! dict(zip(a, b)), plain -/
namespace DL
open PySem L2 PySem.Spec PyProof.Rows
/-- dict(zip(a, b)) -/
def opDictZ : List D → Option Rv
  | [a, b] => (seqOf? a).bind fun ks => (seqOf? b).bind fun vs => (keys? ks).map fun q => .new (.dct (dMerge [] (q.zip vs)))
  | _ => none
section
variable {X : Cx} {G : Gx} {W : WX} {H0 F0 H F H1 F1 : Hp} {sl sl1 : Sl} {σ : L2.St}
theorem keys_reps {K : PySem.W.Frag} {F : Hp} : ∀ {ds : List D} {vs : List V} {ks : List Ky}, Reps K F ds vs → keys? ds = some ks → vs = ks.map kV
  | [], vs, ks, r, e => by
    cases e
    simpa [Reps] using r
  | d :: ds, vs, ks, r, e => by
    obtain ⟨k, e1, e2⟩ := Option.bind_eq_some_iff.mp e
    obtain ⟨ks', e3, e4⟩ := Option.map_eq_some_iff.mp e2
    subst e4
    simp only [Reps] at r
    obtain ⟨v, ws, rfl, r1, r2⟩ := r
    rw [Rep.key r1 e1, keys_reps r2 e3]
    rfl
theorem repK_zip {K : PySem.W.Frag} {F : Hp} : ∀ {ks : List Ky} {ds : List D} {vs : List V}, Reps K F ds vs → RepK K F (ks.zip ds) (ks.zip vs)
  | [], ds, vs, _ => by rw [List.zip_nil_left, List.zip_nil_left]; exact rfl
  | k :: ks, [], vs, r => by
    simp only [Reps] at r
    subst r
    rw [List.zip_nil_right, List.zip_nil_right]; exact rfl
  | k :: ks, d :: ds, vs, r => by
    simp only [Reps] at r
    obtain ⟨v, ws, rfl, r1, r2⟩ := r
    rw [List.zip_cons_cons, List.zip_cons_cons]
    exact ⟨v, _, rfl, r1, repK_zip r2⟩
theorem peek_seq {K : PySem.W.Frag} {H F : Hp} {d : D} {ds : List D} {v : V} (sF : Same F H) (p : Peek K H F d v) (e : seqOf? d = some ds) : ∃ (a : Addr) (b : Bool) (vs : List V), v = .ref a ∧ ZG.SqV b K H a vs ∧ Reps K F ds vs := by
  cases d with
  | lst es =>
    cases e
    obtain ⟨_, a, vs, rfl, ea, r⟩ := p.lst sF
    exact ⟨a, false, vs, rfl, SqL.of ea, r⟩
  | tup es =>
    cases e
    obtain ⟨_, a, vs, rfl, ea, r⟩ := p.tup
    exact ⟨a, true, vs, rfl, SqT.of (sF _ _ ea), r⟩
  | _ => cases e
theorem de_dictZip {e e2 : Expr} {m : MA} {p1 p2 q1 q2 : Pos} (hK : X.K = G.K) (hc : X.calm = true) (hgd : Gl X "dict") (hmd : X.mg "dict" = none) (hgz : Gl X "zip") (hmz : X.mg "zip" = none) (ha : DA X G W [e, e2] m)
    (na : starEach [.Call (.Name "zip" p2) [e, e2] [] q2] X.env = (false, eval (.Call (.Name "zip" p2) [e, e2] [] q2) X.env) :: starEach [] X.env := by rfl)
    (hs : starEach [e, e2] X.env = (false, eval e X.env) :: starEach [e2] X.env := by rfl) (hpl : (backTo q2 (starEach [e2] X.env)).any (·.1) = false := by rfl) :
    DE X G W (.Call (.Name "dict" p1) [.Call (.Name "zip" p2) [e, e2] [] q2] [] q1) (mOp opDictZ m) := by
  refine (ZG.pe_dictZip hc hgd hmd hgz hmz ha na hs hpl).mono fun σ H Q q => te_opN (r := fun vs H1 Q => ∃ (a b : Addr) (k1 k2 : Bool) (ks : List Key) (ys : List V), vs = [.ref a, .ref b] ∧ ZG.SqV k1 X.K H1 a (ks.map kV) ∧ ZG.SqV k2 X.K H1 b ys ∧
      ∀ p, H1 p = none → Q (.ref p) (L2.upd H1 p (.dK (mergeK [] (ks.zip ys))))) (fun H F ds vs z Q sF tb p e k => ?_) q
  rw [hK]
  unfold opDictZ at e
  split at e
  · obtain ⟨x, y, rfl, p1, p2⟩ := two_peek p
    obtain ⟨ds, e1, e⟩ := Option.bind_eq_some_iff.mp e
    obtain ⟨es, e2, e⟩ := Option.bind_eq_some_iff.mp e
    obtain ⟨ks, e3, e4⟩ := Option.map_eq_some_iff.mp e
    subst e4
    obtain ⟨a, b1, xs, rfl, s1, r1⟩ := peek_seq sF p1 e1
    obtain ⟨b, b2, ys, rfl, s2, r2⟩ := peek_seq sF p2 e2
    have ex := keys_reps r1 e3
    subst ex
    exact ⟨a, b, b1, b2, ks, ys, rfl, s1, s2, fun p hp => k _ _ F (GrowT.alloc sF _ hp) ⟨p, rfl, notF sF hp, hp, _, upd_same, RepK.merge (show RepK G.K F [] [] from rfl) (repK_zip r2)⟩⟩
  · cases e
end
end DL
end
section
set_option linter.all false
set_option maxRecDepth 100000
set_option maxHeartbeats 1000000
/-! loops over a zip of two sequences of any kind; the target a tuple of names, or one name -/
namespace ZG
open PySem
open PySem.Sem (wp)
/-- a zip, its own tuple at hand or given out -/
def ZAny (h : Heap) (z TI TO : Addr) : Prop := ∃ (f0 : Value) (f : Bool), h.get? z = some { cls := .type "zip", dict := none, data := .fields #[f0, .bool f, .bool false, .ref TI, .ref TO], slots := #[] } ∧ (f0 = .none ∨ ∃ T : Addr, f0 = rawInt T)
section
variable {prog : Program} {w : World} {A : Around} {E : Value → Shared → Prop} {s : Shared} {z TI TO i1 i2 l1 l2 : Addr} {k : Nat} {xs ys : Array Value} {P1 P2 : Heap → Nat → Prop}
theorem aliveAny {a : Addr} {Q : Option Obj → Shared → Prop} (h : Q (s.heap.get? a) s) : wpAny (model prog w) A (loadIfAlive a) Q E s := fun _ _ _ => h
abbrev IsZ (h : Heap) (z TI TO : Addr) (f0 : Value) (f : Bool) : Prop := h.get? z = some { cls := .type "zip", dict := none, data := .fields #[f0, .bool f, .bool false, .ref TI, .ref TO], slots := #[] }
theorem freeAny {f0 : Value} {f : Bool} {Q : Bool → Shared → Prop} (gz : IsZ s.heap z TI TO f0 f) (h0 : f0 = .none ∨ ∃ T : Addr, f0 = rawInt T)
    (hy : Q true s) (hn : ∀ h', IsZ h' z TI TO f0 true → Heap.SameBut z s.heap h' → Q false { s with heap := h' }) : wpAny (model prog w) A (Builtin.SmallTypes.ownedTupleIsFree (.ref z)) Q E s := by
  unfold Builtin.SmallTypes.ownedTupleIsFree
  rcases h0 with rfl | ⟨T, rfl⟩
  · exact wpAny_bind (wpAny_field gz rfl (x := .none) rfl (wpAny_pure hy))
  · refine wpAny_bind (wpAny_field gz rfl (x := rawInt T) rfl ?_)
    refine wpAny_bind (m := loadIfAlive ((T : Int).toNat)) (aliveAny ?_)
    cases e : s.heap.get? ((T : Int).toNat) with
    | none =>
      simp only [Option.isNone_none, if_true]
      exact wpAny_pure hy
    | some o =>
      simp only [Option.isNone_some, Bool.false_eq_true, if_false]
      refine wpAny_bind (wpAny_field gz rfl (x := .bool f) rfl ?_)
      cases f with
      | true =>
        rw [if_neg (show ¬ ((Value.bool true != Value.bool true) = true) from Bool.false_ne_true)]
        exact wpAny_pure (hn s.heap gz (Heap.SameBut.refl _ _))
      | false =>
        rw [if_pos (show (Value.bool false != Value.bool true) = true from rfl)]
        exact wpAny_bind (wpAny_setField_rec gz (by simp) fun u1 z1 b1 => wpAny_pure (hn u1 z1 b1))
/-- one more pair, whatever stands of the last one -/
theorem nextAny {x y a b : Value} {Q : Value → Shared → Prop} (S1 : SeqIt prog w i1 l1 xs P1) (S2 : SeqIt prog w i2 l2 ys P2) (D : ZipApart z TI TO i1 i2 l1 l2)
    (gz : ZAny s.heap z TI TO) (gI : IsPair s.heap TI (.ref i1) (.ref i2)) (gO : IsPair s.heap TO a b) (p1 : P1 s.heap k) (p2 : P2 s.heap k) (ex : xs[k]? = some x) (ey : ys[k]? = some y)
    (q : ∀ h', ZAny h' z TI TO → (∃ a b, IsPair h' TO a b) → P1 h' (k + 1) → P2 h' (k + 1) → IsPair h' s.heap.objs.size x y → h'.objs.size = s.heap.objs.size + 1 →
      (∀ c o, c ≠ z → c ≠ TO → c ≠ i1 → c ≠ i2 → s.heap.get? c = some o → h'.get? c = some o) → Q (.ref s.heap.objs.size) { s with heap := h' }) :
    wpAny (model prog w) A (Builtin.«zip.__next__» ⟨[.ref z], []⟩) (fun fin s' => ∃ v, fin = .done (.ret v) ∧ Q v s') E s := by
  obtain ⟨f0, f, gz, h0⟩ := gz
  show wpAny _ _ (field (.ref z) 2 >>= _) _ _ _
  refine wpAny_bind (wpAny_field gz rfl (x := .bool false) rfl ?_)
  show wpAny _ _ (field (.ref z) 3 >>= _) _ _ _
  refine wpAny_bind (wpAny_field gz rfl (x := .ref TI) rfl ?_)
  refine wpAny_bind (wpAny_seqItems gI rfl ?_)
  refine wpAny_bind (m := Builtin.SmallTypes.ownedTupleIsFree (.ref z)) (freeAny gz h0 ?_ fun u1 z1 b1 => ?_)
  · simp only [if_true]
    refine wpAny_bind (wpAny_rule ?_)
    refine wpAny_bind (wpAny_field gz rfl (x := .ref TO) rfl ?_)
    refine wpAny_bind (wpAny_setField_rec gz (by simp) fun u1 z1 b1 => ?_)
    replace z1 : IsZ u1 z TI TO .ellipsis f := z1
    refine wpAny_bind ?_
    simp only [List.zipIdx_cons, List.zipIdx_nil, List.forIn_cons, List.forIn_nil]
    have m1 := b1.extBut
    have q1 : P1 u1 k := S1.move p1 (fun o e => m1 _ _ D.i1z e) fun o e => m1 _ _ D.l1z e
    have q2 : P2 u1 k := S2.move p2 (fun o e => m1 _ _ D.i2z e) fun o e => m1 _ _ D.l2z e
    refine wpAny_bind (wpAny_bind (wpAny_onRaise ?_))
    refine wpAny_bind (m := Builtin.SmallTypes.nextOf (.ref i1)) (S1.item (s := { s with heap := u1 }) q1 ex fun u2 r1 b2 => wpAny_pure ?_)
    have m2 := b2.extBut
    have o2 : IsPair u2 TO a b := m2 _ _ D.TOi1 (m1 _ _ D.TOz gO)
    have t2 : P2 u2 k := S2.move q2 (fun o e => m2 _ _ D.i12.symm e) fun o e => m2 _ _ D.l2i1 e
    refine wpAny_bind (wpAny_seqItems o2 rfl ?_)
    refine wpAny_bind (wpAny_updateSeq_pair o2 fun u3 o3 b3 => ?_)
    replace o3 : IsPair u3 TO x b := o3
    have m3 := b3.extBut
    have t3 : P2 u3 k := S2.move t2 (fun o e => m3 _ _ D.TOi2.symm e) fun o e => m3 _ _ D.l2TO e
    have r3 : P1 u3 (k + 1) := S1.move r1 (fun o e => m3 _ _ D.TOi1.symm e) fun o e => m3 _ _ D.l1TO e
    refine wpAny_bind (wpAny_letGo (wpAny_pure ?_))
    refine wpAny_bind (wpAny_bind (wpAny_onRaise ?_))
    refine wpAny_bind (m := Builtin.SmallTypes.nextOf (.ref i2)) (S2.item (s := { s with heap := u3 }) t3 ey fun u4 t4 b4 => wpAny_pure ?_)
    have m4 := b4.extBut
    have o4 : IsPair u4 TO x b := m4 _ _ D.TOi2 o3
    have r4 : P1 u4 (k + 1) := S1.move r3 (fun o e => m4 _ _ D.i12 e) fun o e => m4 _ _ D.l1i2 e
    refine wpAny_bind (wpAny_seqItems o4 rfl ?_)
    refine wpAny_bind (wpAny_updateSeq_pair o4 fun u5 o5 b5 => ?_)
    replace o5 : IsPair u5 TO x y := o5
    have m5 := b5.extBut
    have r5 : P1 u5 (k + 1) := S1.move r4 (fun o e => m5 _ _ D.TOi1.symm e) fun o e => m5 _ _ D.l1TO e
    have t5 : P2 u5 (k + 1) := S2.move t4 (fun o e => m5 _ _ D.TOi2.symm e) fun o e => m5 _ _ D.l2TO e
    refine wpAny_bind (wpAny_letGo (wpAny_pure (wpAny_pure ?_)))
    refine wpAny_bind (wpAny_seqItems o5 rfl ?_)
    refine wpAny_bind (wpAny_newTuple ?_)
    have sz : u5.objs.size = s.heap.objs.size := by rw [b5.1, b4.1, b3.1, b2.1, b1.1]
    have z5 : IsZ u5 z TI TO .ellipsis f := m5 _ _ D.TOz.symm (m4 _ _ D.i2z.symm (m3 _ _ D.TOz.symm (m2 _ _ D.i1z.symm z1)))
    have all5 : ∀ c o, c ≠ z → c ≠ TO → c ≠ i1 → c ≠ i2 → s.heap.get? c = some o → u5.get? c = some o := fun c o n1 n2 n3 n4 e =>
      m5 _ _ n2 (m4 _ _ n4 (m3 _ _ n2 (m2 _ _ n3 (m1 _ _ n1 e))))
    have zlt : z < u5.objs.size := Heap.lt_size z5
    refine wpAny_bind (m := Builtin.SmallTypes.ownedTupleHandOut (.ref z) (.ref u5.objs.size)) ?_
    unfold Builtin.SmallTypes.ownedTupleHandOut
    have z6 : IsZ (u5.push { cls := .type "tuple", data := .seq #[x, y] }) z TI TO .ellipsis f := Heap.get?_push_of_some _ z5
    refine wpAny_bind (wpAny_setField_rec z6 (by simp) fun u7 z7 b7 => ?_)
    replace z7 : IsZ u7 z TI TO (rawInt u5.objs.size) f := z7
    refine wpAny_setField_rec z7 (by simp) fun u8 z8 b8 => ?_
    replace z8 : IsZ u8 z TI TO (rawInt u5.objs.size) false := z8
    have up : ∀ c o, c ≠ z → u5.get? c = some o → u8.get? c = some o := fun c o n e => b8.extBut _ _ n (b7.extBut _ _ n (Heap.get?_push_of_some _ e))
    have T8 : IsPair u8 u5.objs.size x y := b8.extBut _ _ (Nat.ne_of_gt zlt) (b7.extBut _ _ (Nat.ne_of_gt zlt) (Heap.get?_push_size _ rfl))
    have sz8 : u8.objs.size = u5.objs.size + 1 := by rw [b8.1, b7.1, Heap.size_push]
    have za : ZAny u8 z TI TO := ⟨_, _, z8, .inr ⟨_, rfl⟩⟩
    rw [sz] at T8 sz8
    refine wpAny_pure ⟨_, rfl, ?_⟩
    show Q (.ref u5.objs.size) _
    rw [sz]
    exact q u8 za ⟨_, _, up _ _ D.TOz o5⟩ (S1.move r5 (fun o e => up _ o D.i1z e) fun o e => up _ o D.l1z e) (S2.move t5 (fun o e => up _ o D.i2z e) fun o e => up _ o D.l2z e) T8 sz8 fun c o n1 n2 n3 n4 e => up c o n1 (all5 c o n1 n2 n3 n4 e)
  · simp only [Bool.false_eq_true, if_false]
    refine wpAny_bind ?_
    rw [← Array.forIn_toList]
    simp only [List.forIn_cons, List.forIn_nil]
    have m1 := b1.extBut
    have q1 : P1 u1 k := S1.move p1 (fun o e => m1 _ _ D.i1z e) fun o e => m1 _ _ D.l1z e
    have q2 : P2 u1 k := S2.move p2 (fun o e => m1 _ _ D.i2z e) fun o e => m1 _ _ D.l2z e
    refine wpAny_bind (wpAny_bind (wpAny_holding ?_))
    refine wpAny_bind (m := Builtin.SmallTypes.nextOf (.ref i1)) (S1.item (s := { s with heap := u1 }) q1 ex fun u2 r1 b2 => wpAny_pure (wpAny_pure ?_))
    have m2 := b2.extBut
    have t2 : P2 u2 k := S2.move q2 (fun o e => m2 _ _ D.i12.symm e) fun o e => m2 _ _ D.l2i1 e
    refine wpAny_bind (wpAny_bind (wpAny_holding ?_))
    refine wpAny_bind (m := Builtin.SmallTypes.nextOf (.ref i2)) (S2.item (s := { s with heap := u2 }) t2 ey fun u3 t3 b3 => wpAny_pure (wpAny_pure (wpAny_pure ?_)))
    have m3 := b3.extBut
    have r3 : P1 u3 (k + 1) := S1.move r1 (fun o e => m3 _ _ D.i12 e) fun o e => m3 _ _ D.l1i2 e
    refine wpAny_bind (m := newTuple [x, y]) (wpAny_newTuple ?_)
    have sz : u3.objs.size = s.heap.objs.size := by rw [b3.1, b2.1, b1.1]
    have z3 : IsZ u3 z TI TO f0 true := m3 _ _ D.i2z.symm (m2 _ _ D.i1z.symm z1)
    have all3 : ∀ c o, c ≠ z → c ≠ i1 → c ≠ i2 → s.heap.get? c = some o → u3.get? c = some o := fun c o n1 n2 n3 e => m3 _ _ n3 (m2 _ _ n2 (m1 _ _ n1 e))
    refine wpAny_pure ⟨_, rfl, ?_⟩
    show Q (.ref u3.objs.size) _
    have up : ∀ {c o}, u3.get? c = some o → (u3.push { cls := .type "tuple", data := .seq #[x, y] }).get? c = some o := fun e => Heap.get?_push_of_some _ e
    have T4 : IsPair (u3.push { cls := .type "tuple", data := .seq #[x, y] }) u3.objs.size x y := Heap.get?_push_size _ rfl
    have sz4 : (u3.push { cls := .type "tuple", data := .seq #[x, y] }).objs.size = u3.objs.size + 1 := Heap.size_push ..
    have za : ZAny (u3.push { cls := .type "tuple", data := .seq #[x, y] }) z TI TO := ⟨_, _, up z3, h0⟩
    rw [sz] at T4 sz4 ⊢
    exact q _ za ⟨_, _, up (all3 _ _ D.TOz D.TOi1 D.TOi2 gO)⟩ (S1.move r3 (fun o e => up e) fun o e => up e) (S2.move t3 (fun o e => up e) fun o e => up e) T4 sz4 fun c o n1 _ n2 n3 e => up (all3 c o n1 n2 n3 e)
theorem endAny {a b : Value} {Q : Fin → Shared → Prop} (hh : A.handled = none) (S1 : SeqIt prog w i1 l1 xs P1) (S2 : SeqIt prog w i2 l2 ys P2) (D : ZipApart z TI TO i1 i2 l1 l2)
    (gz : ZAny s.heap z TI TO) (gI : IsPair s.heap TI (.ref i1) (.ref i2)) (gO : IsPair s.heap TO a b) (p1 : P1 s.heap k) (p2 : P2 s.heap k) (no : xs[k]? = none ∨ ys[k]? = none)
    (q : ∀ h' e, (∀ c o, c ≠ z → c ≠ TO → c ≠ i1 → c ≠ i2 → s.heap.get? c = some o → h'.get? c = some o) → (∃ o, h'.get? e = some o ∧ o.cls = .type "StopIteration") → E (.ref e) { s with heap := h' }) :
    wpAny (model prog w) A (Builtin.«zip.__next__» ⟨[.ref z], []⟩) Q E s := by
  obtain ⟨f0, f, gz, h0⟩ := gz
  show wpAny _ _ (field (.ref z) 2 >>= _) _ _ _
  refine wpAny_bind (wpAny_field gz rfl (x := .bool false) rfl ?_)
  show wpAny _ _ (field (.ref z) 3 >>= _) _ _ _
  refine wpAny_bind (wpAny_field gz rfl (x := .ref TI) rfl ?_)
  refine wpAny_bind (wpAny_seqItems gI rfl ?_)
  refine wpAny_bind (m := Builtin.SmallTypes.ownedTupleIsFree (.ref z)) (freeAny gz h0 ?_ fun u1 z1 b1 => ?_)
  · simp only [if_true]
    refine wpAny_bind (wpAny_rule ?_)
    refine wpAny_bind (wpAny_field gz rfl (x := .ref TO) rfl ?_)
    refine wpAny_bind (wpAny_setField_rec gz (by simp) fun u1 z1 b1 => ?_)
    replace z1 : IsZ u1 z TI TO .ellipsis f := z1
    refine wpAny_bind ?_
    simp only [List.zipIdx_cons, List.zipIdx_nil, List.forIn_cons, List.forIn_nil]
    have m1 := b1.extBut
    have q1 : P1 u1 k := S1.move p1 (fun o e => m1 _ _ D.i1z e) fun o e => m1 _ _ D.l1z e
    have q2 : P2 u1 k := S2.move p2 (fun o e => m1 _ _ D.i2z e) fun o e => m1 _ _ D.l2z e
    refine wpAny_bind (wpAny_bind (wpAny_onRaise ?_))
    cases ex : xs[k]? with
    | none =>
      refine wpAny_bind (m := Builtin.SmallTypes.nextOf (.ref i1)) (S1.ends (s := { s with heap := u1 }) hh q1 ex fun u2 e b2 he => ?_)
      obtain ⟨oe, g1, g2⟩ := he
      have z2 : IsZ u2 z TI TO .ellipsis f := b2 _ _ D.i1z.symm z1
      have ne : e ≠ z := fun w => by subst w; rw [z2] at g1; cases g1; simp at g2
      exact wpAny_setField_rec z2 (by simp) fun u3 _ b3 => q u3 e (fun c o n1 _ n3 _ w => b3.extBut _ _ n1 (b2 _ _ n3 (m1 _ _ n1 w))) ⟨oe, b3.extBut _ _ ne g1, g2⟩
    | some x =>
      have ey : ys[k]? = none := by rcases no with h | h; rw [ex] at h; cases h; exact h
      refine wpAny_bind (m := Builtin.SmallTypes.nextOf (.ref i1)) (S1.item (s := { s with heap := u1 }) q1 ex fun u2 r1 b2 => wpAny_pure ?_)
      have m2 := b2.extBut
      have o2 : IsPair u2 TO a b := m2 _ _ D.TOi1 (m1 _ _ D.TOz gO)
      have t2 : P2 u2 k := S2.move q2 (fun o e => m2 _ _ D.i12.symm e) fun o e => m2 _ _ D.l2i1 e
      refine wpAny_bind (wpAny_seqItems o2 rfl ?_)
      refine wpAny_bind (wpAny_updateSeq_pair o2 fun u3 o3 b3 => ?_)
      have m3 := b3.extBut
      have t3 : P2 u3 k := S2.move t2 (fun o e => m3 _ _ D.TOi2.symm e) fun o e => m3 _ _ D.l2TO e
      refine wpAny_bind (wpAny_letGo (wpAny_pure ?_))
      refine wpAny_bind (wpAny_bind (wpAny_onRaise ?_))
      refine wpAny_bind (m := Builtin.SmallTypes.nextOf (.ref i2)) (S2.ends (s := { s with heap := u3 }) hh t3 ey fun u4 e b4 he => ?_)
      obtain ⟨oe, g1, g2⟩ := he
      have z4 : IsZ u4 z TI TO .ellipsis f := b4 _ _ D.i2z.symm (m3 _ _ D.TOz.symm (m2 _ _ D.i1z.symm z1))
      have ne : e ≠ z := fun w => by subst w; rw [z4] at g1; cases g1; simp at g2
      exact wpAny_setField_rec z4 (by simp) fun u5 _ b5 => q u5 e (fun c o n1 n2 n3 n4 w => b5.extBut _ _ n1 (b4 _ _ n4 (m3 _ _ n2 (m2 _ _ n3 (m1 _ _ n1 w))))) ⟨oe, b5.extBut _ _ ne g1, g2⟩
  · simp only [Bool.false_eq_true, if_false]
    refine wpAny_bind ?_
    rw [← Array.forIn_toList]
    simp only [List.forIn_cons, List.forIn_nil]
    have m1 := b1.extBut
    have q1 : P1 u1 k := S1.move p1 (fun o e => m1 _ _ D.i1z e) fun o e => m1 _ _ D.l1z e
    have q2 : P2 u1 k := S2.move p2 (fun o e => m1 _ _ D.i2z e) fun o e => m1 _ _ D.l2z e
    refine wpAny_bind (wpAny_bind (wpAny_holding ?_))
    cases ex : xs[k]? with
    | none =>
      exact wpAny_bind (m := Builtin.SmallTypes.nextOf (.ref i1)) (S1.ends (s := { s with heap := u1 }) hh q1 ex fun u2 e b2 he => q u2 e (fun c o n1 _ n2 _ w => b2 _ _ n2 (m1 _ _ n1 w)) he)
    | some x =>
      have ey : ys[k]? = none := by rcases no with h | h; rw [ex] at h; cases h; exact h
      refine wpAny_bind (m := Builtin.SmallTypes.nextOf (.ref i1)) (S1.item (s := { s with heap := u1 }) q1 ex fun u2 r1 b2 => wpAny_pure (wpAny_pure ?_))
      have m2 := b2.extBut
      have t2 : P2 u2 k := S2.move q2 (fun o e => m2 _ _ D.i12.symm e) fun o e => m2 _ _ D.l2i1 e
      refine wpAny_bind (wpAny_bind (wpAny_holding ?_))
      exact wpAny_bind (m := Builtin.SmallTypes.nextOf (.ref i2)) (S2.ends (s := { s with heap := u2 }) hh t2 ey fun u3 e b3 he => q u3 e (fun c o n1 _ n2 n3 w => b3 _ _ n3 (m2 _ _ n2 (m1 _ _ n1 w))) he)
theorem pyAny {x y a b : Value} {Q : Option Value → Shared → Prop} (S1 : SeqIt prog w i1 l1 xs P1) (S2 : SeqIt prog w i2 l2 ys P2) (D : ZipApart z TI TO i1 i2 l1 l2)
    (gz : ZAny s.heap z TI TO) (gI : IsPair s.heap TI (.ref i1) (.ref i2)) (gO : IsPair s.heap TO a b) (p1 : P1 s.heap k) (p2 : P2 s.heap k) (ex : xs[k]? = some x) (ey : ys[k]? = some y)
    (q : ∀ h', ZAny h' z TI TO → (∃ a b, IsPair h' TO a b) → P1 h' (k + 1) → P2 h' (k + 1) → IsPair h' s.heap.objs.size x y → h'.objs.size = s.heap.objs.size + 1 →
      (∀ c o, c ≠ z → c ≠ TO → c ≠ i1 → c ≠ i2 → s.heap.get? c = some o → h'.get? c = some o) → Q (some (.ref s.heap.objs.size)) { s with heap := h' }) :
    wpAny (model prog w) A (pyNext (.ref z)) Q E s := by
  have ty : s.TypeIs (.ref z) "zip" := let ⟨_, _, g, _⟩ := gz; ⟨_, g, rfl⟩
  unfold pyNext
  exact wpAny_bind (wpAny_attempt (wpAny_callSpecial?_slot (name := Str.ofString "__next__") ty F.slot_zip_next
    (wpAny_call_entry F.slot_zip_next ty F.entry_zip_next (nextAny S1 S2 D gz gI gO p1 p2 ex ey fun h' a1 a2 a3 a4 a5 a6 a7 => wpAny_pure (q h' a1 a2 a3 a4 a5 a6 a7)) (F.args_zip_next_1 _))))
theorem pyAnyEnd {a b : Value} {Q : Option Value → Shared → Prop} (hh : A.handled = none) (S1 : SeqIt prog w i1 l1 xs P1) (S2 : SeqIt prog w i2 l2 ys P2) (D : ZipApart z TI TO i1 i2 l1 l2)
    (gz : ZAny s.heap z TI TO) (gI : IsPair s.heap TI (.ref i1) (.ref i2)) (gO : IsPair s.heap TO a b) (p1 : P1 s.heap k) (p2 : P2 s.heap k) (no : xs[k]? = none ∨ ys[k]? = none)
    (q : ∀ h', (∀ c o, c ≠ z → c ≠ TO → c ≠ i1 → c ≠ i2 → s.heap.get? c = some o → h'.get? c = some o) → Q none { s with heap := h' }) : wpAny (model prog w) A (pyNext (.ref z)) Q E s := by
  have ty : s.TypeIs (.ref z) "zip" := let ⟨_, _, g, _⟩ := gz; ⟨_, g, rfl⟩
  unfold pyNext
  refine wpAny_bind (wpAny_attempt (wpAny_callSpecial?_slot (name := Str.ofString "__next__") ty F.slot_zip_next
    (wpAny_call_entry F.slot_zip_next ty F.entry_zip_next (endAny hh S1 S2 D gz gI gO p1 p2 no fun h' e keep he => ?_) (F.args_zip_next_1 _))))
  obtain ⟨o, e1, e2⟩ := he
  exact wpAny_bind (wpAny_isInstance (T := "StopIteration") (b := true) ⟨o, e1, e2⟩ isSubtype_stop (wpAny_pure (q _ keep)))
end
end ZG
end
section
set_option linter.all false
set_option maxRecDepth 100000
set_option maxHeartbeats 1000000
/-! zip loops: the hand layer's turns -/
namespace ZG
open PySem PySem.Spec PyProof.Rows L2
/-- the two sequences as they stand at each turn, the items in new pairs -/
def ItzB (K : PySem.W.Frag) (k1 k2 : Bool) (a b : Addr) : It :=
  ⟨fun i H => ∃ (xs ys : List V) (x y : V), SqV k1 K H a xs ∧ SqV k2 K H b ys ∧ xs[i]? = some x ∧ ys[i]? = some y,
    fun i H v H' => ∃ T x y, v = .ref T ∧ H T = none ∧ H' = upd H T (.tup [x, y]) ∧ (∀ xs, SqV k1 K H a xs → xs[i]? = some x) ∧ ∀ ys, SqV k2 K H b ys → ys[i]? = some y,
    fun i H => ∃ xs ys : List V, SqV k1 K H a xs ∧ SqV k2 K H b ys ∧ (xs.length ≤ i ∨ ys.length ≤ i)⟩
abbrev ItO : Bool → Heap → Addr → Addr → Nat → Prop
  | true, h, it, l, k => h.IsTupleIter it l k
  | false, h, it, l, k => h.IsListIter it l k
theorem ItO.on {b : Bool} {h : Heap} {it l : Addr} {k : Nat} {xs : Array Value} (p : ItO b h it l k) (q : SqB b h l xs) : ItB b it l xs h k := by cases b <;> exact ⟨p, q⟩
theorem ItB.o {b : Bool} {h : Heap} {it l : Addr} {k : Nat} {xs : Array Value} (p : ItB b it l xs h k) : ItO b h it l k := by cases b <;> exact p.1
theorem ItO.move {b : Bool} {h h' : Heap} {it l : Addr} {k : Nat} (p : ItO b h it l k) (u : ∀ o, h.get? it = some o → h'.get? it = some o) : ItO b h' it l k := by cases b <;> exact p.at u
theorem ItO.obj {b : Bool} {h : Heap} {it l : Addr} {k : Nat} (p : ItO b h it l k) : ∃ o, h.get? it = some o ∧ ∀ v, o.data ≠ .cell v := by
  cases b <;> exact (let ⟨o, e, _, d⟩ := p; ⟨o, e, fun v w => by rw [d] at w; cases w⟩)
section
variable {P : Program} {w : World} {K : PySem.W.Frag} {a b z TI TO i1 i2 : Addr} {k1 k2 : Bool}
/-- the target a tuple of names: each pair is taken apart, the zip gets its tuple back -/
theorem turnT {elts : List Expr} {kk : Nat} {tpos : Pos} (D : ZipApart z TI TO i1 i2 a b) (n1 : i1 ≠ a) (n2 : i2 ≠ b) :
    Turn P w K (.Tuple elts kk tpos) (ItzB K k1 k2 a b) [z, TI, TO, i1, i2] z (fun i h => IsZip h z TI TO .none ∧ IsPair h TI (.ref i1) (.ref i2) ∧ (∃ x y, IsPair h TO x y) ∧ ItO k1 h i1 a i ∧ ItO k2 h i2 b i) where
  mem := by simp
  obj := fun i h st c hc => by
    obtain ⟨gz, gI, ⟨x, y, gO⟩, t1, t2⟩ := st
    have e : c = z ∨ c = TI ∨ c = TO ∨ c = i1 ∨ c = i2 := by simpa using hc
    rcases e with r | r | r | r | r
    · rw [r]; exact ⟨_, gz, fun v r => nomatch r⟩
    · rw [r]; exact ⟨_, gI, fun v r => nomatch r⟩
    · rw [r]; exact ⟨_, gO, fun v r => nomatch r⟩
    · rw [r]; exact t1.obj
    · rw [r]; exact t2.obj
  keep := fun i h h' st u => by
    obtain ⟨gz, gI, ⟨x, y, gO⟩, t1, t2⟩ := st
    exact ⟨u z (by simp) _ gz, u TI (by simp) _ gI, ⟨x, y, u TO (by simp) _ gO⟩, t1.move fun o r => u i1 (by simp) o r, t2.move fun o r => u i2 (by simp) o r⟩
  item := by
    intro X hP hw hK hc i pins s σ H E I hf st hg
    subst hP hw hK
    obtain ⟨gz, gI, ⟨x0, y0, gO⟩, t1, t2⟩ := st
    obtain ⟨xs, ys, x, y, hx, hy, ex, ey⟩ := hg
    obtain ⟨is1, v1, q1, _⟩ := sqv_at I hx
    obtain ⟨is2, v2, q2, _⟩ := sqv_at I hy
    obtain ⟨u, eu, ru⟩ := v1.get ex
    obtain ⟨u2, eu2, ru2⟩ := v2.get ey
    have zl : z < s.heap.objs.size := Heap.lt_size gz
    refine pyFree (seqB k1 n1) (seqB k2 n2) D gz gI gO (t1.on q1) (t2.on q2) (x := u) (y := u2) (by simpa using eu) (by simpa using eu2) fun h' gz' gO' t1' t2' gT hsz up => ?_
    refine ⟨_, rfl, wpAny_letOwnedTupleGo_zip (s := { s with heap := h' }) gz' fun h'' gz'' sb => ?_⟩
    have back : ∀ c o, c ≠ z → h'.get? c = some o → h''.get? c = some o := fun c o n e => (sb.2 _ n).trans e
    have gT2 := back _ _ (Nat.ne_of_gt zl) gT
    have new : ObjOk X.prog X.w (upd H s.heap.objs.size (.tup [x, y])) h'' s.heap.objs.size (.tup [x, y]) := ⟨by show 2 ≤ sizeLine; decide, [u, u2], .cons ru (.cons ru2 .nil), ⟨_, gT2, rfl, _, rfl⟩⟩
    have I1 : Inv X pins σ (upd H s.heap.objs.size (.tup [x, y])) { s with heap := h'' } :=
      I.turnedNew (t' := s.toks) (ch := [z, TI, TO, i1, i2]) (fun c o hb e => back c o (fun r => hb (by simp [r])) (up c o (fun r => hb (by simp [r])) (fun r => hb (by simp [r])) (fun r => hb (by simp [r])) (fun r => hb (by simp [r])) e)) hf (Nat.le_refl _) new
    refine ⟨.ref s.heap.objs.size, _, I1, rfl, ⟨_, x, y, rfl, I.hok.fresh (Nat.le_refl _), rfl, fun l hl => by rw [sqv_inj I hl hx]; exact ex, fun l hl => by rw [sqv_inj I hl hy]; exact ey⟩, ⟨gz'', back _ _ D.TIz (up _ _ D.TIz D.TITO D.TIi1 D.TIi2 gI), ⟨u, u2, back _ _ D.TOz gO'⟩, t1'.o.move fun o r => back _ o D.i1z r, t2'.o.move fun o r => back _ o D.i2z r⟩, fun c hcm => ?_⟩
    have lt : c < s.heap.objs.size := by
      have e : c = z ∨ c = TI ∨ c = TO ∨ c = i1 ∨ c = i2 := by simpa using hcm
      rcases e with r | r | r | r | r
      · rw [r]; exact zl
      · rw [r]; exact Heap.lt_size gI
      · rw [r]; exact Heap.lt_size gO
      · rw [r]; obtain ⟨_, e1, _⟩ := t1.obj; exact Heap.lt_size e1
      · rw [r]; obtain ⟨_, e2, _⟩ := t2.obj; exact Heap.lt_size e2
    rw [upd_ne (Nat.ne_of_lt lt)]
    exact (hf c hcm).1
  done := by
    intro X hP hw hK hc i pins s σ H E I hf st hg
    subst hP hw hK
    obtain ⟨gz, gI, ⟨x0, y0, gO⟩, t1, t2⟩ := st
    obtain ⟨xs, ys, hx, hy, no⟩ := hg
    obtain ⟨is1, v1, q1, _⟩ := sqv_at I hx
    obtain ⟨is2, v2, q2, _⟩ := sqv_at I hy
    have l1 := v1.length
    have l2 := v2.length
    have he : is1.toArray[i]? = none ∨ is2.toArray[i]? = none := by
      rcases no with r | r
      · exact .inl (by simp; omega)
      · exact .inr (by simp; omega)
    exact pyFreeEnd (I.ok.hd hc) (seqB k1 n1) (seqB k2 n2) D gz gI gO (t1.on q1) (t2.on q2) he fun h' up => ⟨rfl, I.turnedL (t' := s.toks) (ch := [z, TI, TO, i1, i2]) (fun c o hb e =>
      up c o (fun r => hb (by simp [r])) (fun r => hb (by simp [r])) (fun r => hb (by simp [r])) (fun r => hb (by simp [r])) e) hf⟩
  self := fun A i s Q E st h => wpAny_pyIter_zip st.1 h
/-- the target one name: the pair stays with it -/
theorem turnN {y : Str} {ypos : Pos} (D : ZipApart z TI TO i1 i2 a b) (n1 : i1 ≠ a) (n2 : i2 ≠ b) :
    Turn P w K (.Name y ypos) (ItzB K k1 k2 a b) [z, TI, TO, i1, i2] z (fun i h => ZAny h z TI TO ∧ IsPair h TI (.ref i1) (.ref i2) ∧ (∃ x y, IsPair h TO x y) ∧ ItO k1 h i1 a i ∧ ItO k2 h i2 b i) where
  mem := by simp
  obj := fun i h st c hc => by
    obtain ⟨⟨f0, f, gz, _⟩, gI, ⟨x, y, gO⟩, t1, t2⟩ := st
    have e : c = z ∨ c = TI ∨ c = TO ∨ c = i1 ∨ c = i2 := by simpa using hc
    rcases e with r | r | r | r | r
    · rw [r]; exact ⟨_, gz, fun v r => nomatch r⟩
    · rw [r]; exact ⟨_, gI, fun v r => nomatch r⟩
    · rw [r]; exact ⟨_, gO, fun v r => nomatch r⟩
    · rw [r]; exact t1.obj
    · rw [r]; exact t2.obj
  keep := fun i h h' st u => by
    obtain ⟨⟨f0, f, gz, h0⟩, gI, ⟨x, y, gO⟩, t1, t2⟩ := st
    exact ⟨⟨f0, f, u z (by simp) _ gz, h0⟩, u TI (by simp) _ gI, ⟨x, y, u TO (by simp) _ gO⟩, t1.move fun o r => u i1 (by simp) o r, t2.move fun o r => u i2 (by simp) o r⟩
  item := by
    intro X hP hw hK hc i pins s σ H E I hf st hg
    subst hP hw hK
    obtain ⟨gz, gI, ⟨x0, y0, gO⟩, t1, t2⟩ := st
    obtain ⟨xs, ys, x, y, hx, hy, ex, ey⟩ := hg
    obtain ⟨is1, v1, q1, _⟩ := sqv_at I hx
    obtain ⟨is2, v2, q2, _⟩ := sqv_at I hy
    obtain ⟨u, eu, ru⟩ := v1.get ex
    obtain ⟨u2, eu2, ru2⟩ := v2.get ey
    have zl : z < s.heap.objs.size := let ⟨_, _, g, _⟩ := gz; Heap.lt_size g
    refine pyAny (seqB k1 n1) (seqB k2 n2) D gz gI gO (t1.on q1) (t2.on q2) (x := u) (y := u2) (by simpa using eu) (by simpa using eu2) fun h' gz' gO' t1' t2' gT hsz up => ?_
    refine ⟨_, rfl, ?_⟩
    unfold letOwnedTupleGo
    refine wpAny_pure ?_
    have new : ObjOk X.prog X.w (upd H s.heap.objs.size (.tup [x, y])) h' s.heap.objs.size (.tup [x, y]) := ⟨by show 2 ≤ sizeLine; decide, [u, u2], .cons ru (.cons ru2 .nil), ⟨_, gT, rfl, _, rfl⟩⟩
    have I1 : Inv X pins σ (upd H s.heap.objs.size (.tup [x, y])) { s with heap := h' } :=
      I.turnedNew (t' := s.toks) (ch := [z, TI, TO, i1, i2]) (fun c o hb e => up c o (fun r => hb (by simp [r])) (fun r => hb (by simp [r])) (fun r => hb (by simp [r])) (fun r => hb (by simp [r])) e) hf (Nat.le_refl _) new
    refine ⟨.ref s.heap.objs.size, _, I1, rfl, ⟨_, x, y, rfl, I.hok.fresh (Nat.le_refl _), rfl, fun l hl => by rw [sqv_inj I hl hx]; exact ex, fun l hl => by rw [sqv_inj I hl hy]; exact ey⟩, ⟨gz', up _ _ D.TIz D.TITO D.TIi1 D.TIi2 gI, gO', t1'.o, t2'.o⟩, fun c hcm => ?_⟩
    have lt : c < s.heap.objs.size := by
      have e : c = z ∨ c = TI ∨ c = TO ∨ c = i1 ∨ c = i2 := by simpa using hcm
      rcases e with r | r | r | r | r
      · rw [r]; exact zl
      · rw [r]; exact Heap.lt_size gI
      · rw [r]; exact Heap.lt_size gO
      · rw [r]; obtain ⟨_, e1, _⟩ := t1.obj; exact Heap.lt_size e1
      · rw [r]; obtain ⟨_, e2, _⟩ := t2.obj; exact Heap.lt_size e2
    rw [upd_ne (Nat.ne_of_lt lt)]
    exact (hf c hcm).1
  done := by
    intro X hP hw hK hc i pins s σ H E I hf st hg
    subst hP hw hK
    obtain ⟨gz, gI, ⟨x0, y0, gO⟩, t1, t2⟩ := st
    obtain ⟨xs, ys, hx, hy, no⟩ := hg
    obtain ⟨is1, v1, q1, _⟩ := sqv_at I hx
    obtain ⟨is2, v2, q2, _⟩ := sqv_at I hy
    have l1 := v1.length
    have l2 := v2.length
    have he : is1.toArray[i]? = none ∨ is2.toArray[i]? = none := by
      rcases no with r | r
      · exact .inl (by simp; omega)
      · exact .inr (by simp; omega)
    exact pyAnyEnd (I.ok.hd hc) (seqB k1 n1) (seqB k2 n2) D gz gI gO (t1.on q1) (t2.on q2) he fun h' up => ⟨rfl, I.turnedL (t' := s.toks) (ch := [z, TI, TO, i1, i2]) (fun c o hb e =>
      up c o (fun r => hb (by simp [r])) (fun r => hb (by simp [r])) (fun r => hb (by simp [r])) (fun r => hb (by simp [r])) e) hf⟩
  self := fun A i s Q E st h => by
    obtain ⟨⟨f0, f, gz, _⟩, _⟩ := st
    have ty : s.TypeIs (.ref z) "zip" := ⟨_, gz, rfl⟩
    refine wpAny_pyIter_slot ty F.slot_zip_iter (wpAny_call_entry F.slot_zip_iter ty F.entry_zip_iter ?_ (F.args_zip_iter_1 _))
    show wpAny _ _ (ret (.ref z)) _ _ s
    exact wpAny_pure ⟨_, rfl, "zip", _, ty, F.slot_zip_next.lookup, h⟩
end
/-- zip(e, e2) walked -/
def iZipB (K : PySem.W.Frag) (ta : TA) : TI := fun σ H R => ta σ H fun vs H1 => ∃ (a b : Addr) (k1 k2 : Bool) (xs ys : List V), vs = [.ref a, .ref b] ∧ SqV k1 K H1 a xs ∧ SqV k2 K H1 b ys ∧ R (ItzB K k1 k2 a b) H1
section
variable {X : Cx} {e e2 : Expr} {ta : TA} {p pos : Pos}
theorem piZip {tg : Expr} (tgs : (∃ elts kk tpos, tg = .Tuple elts kk tpos) ∨ ∃ y ypos, tg = .Name y ypos) (hg : Gl X "zip") (hm : X.mg "zip" = none) (ha : PA X [e, e2] ta)
    (hs : starEach [e, e2] X.env = (false, eval e X.env) :: starEach [e2] X.env := by rfl) (hpl : (backTo pos (starEach [e2] X.env)).any (·.1) = false := by rfl) :
    PI X tg (.Call (.Name "zip" p) [e, e2] [] pos) (iZipB X.K ta) := by
  refine ⟨fun pins s σ H R I h => ?_⟩
  refine Call_ (ld_blt I hg hm PyProof.Rows.boot_zip (PyProof.Rows.callWith_type1 (thn (ha.run pos pins s σ H _ I h) fun us s1 ⟨vs, H1, I1, r1, q⟩ => ?_) hs hpl))
  obtain ⟨a, b, k1, k2, xs, ys, ex, hx, hy, q⟩ := q
  subst ex
  cases r1 with
  | cons ra rr =>
    cases rr with
    | cons rb rr =>
      cases rr; cases ra; cases rb
      obtain ⟨is1, v1, pl1, _⟩ := sqv_at I1 hx
      obtain ⟨is2, v2, pl2, _⟩ := sqv_at I1 hy
      have la := pl1.lt
      have lb := pl2.lt
      have D := PySem.W.ktu_apart s1.heap.objs.size a b la lb
      have five : ∀ c, c ∈ [s1.heap.objs.size + 4, s1.heap.objs.size + 2, s1.heap.objs.size + 3, s1.heap.objs.size, s1.heap.objs.size + 1] → FpOk X pins H1 c := fun c hcm => by
        have le : s1.heap.objs.size ≤ c := by
          simp only [List.mem_cons, List.not_mem_nil, or_false] at hcm
          rcases hcm with r | r | r | r | r <;> rw [r] <;> first | exact Nat.le_refl _ | exact Nat.le_add_right _ _
        exact I1.fpOk le (I1.hok.fresh le)
      refine callZip pl1 pl2 fun h' gz gI gO t1 t2 hsz up => wpAny_pyIter_zip gz ?_
      have I2 : Inv X pins σ H1 { s1 with heap := h' } := I1.kept (t' := s1.toks) up
      rcases tgs with ⟨elts, kk, tpos, rfl⟩ | ⟨y, ypos, rfl⟩
      · exact ⟨_, _, _, _, H1, rfl, I2, turnT (k1 := k1) (k2 := k2) D (Nat.ne_of_gt la) (Nat.ne_of_gt (Nat.lt_succ_of_lt lb)), ⟨gz, gI, ⟨_, _, gO⟩, t1.o, t2.o⟩, five, q⟩
      · exact ⟨_, _, _, _, H1, rfl, I2, turnN (k1 := k1) (k2 := k2) D (Nat.ne_of_gt la) (Nat.ne_of_gt (Nat.lt_succ_of_lt lb)), ⟨⟨_, _, gz, .inl rfl⟩, gI, ⟨_, _, gO⟩, t1.o, t2.o⟩, five, q⟩
end
end ZG
end
section
set_option linter.all false
set_option maxRecDepth 100000
set_option maxHeartbeats 1000000
/-! zip(a, b) walked, plain -/
namespace DL
open PySem L2 PySem.Spec PyProof.Rows RZ
def zipAny : List D → Option (List D)
  | [a, b] => (seqOf? a).bind fun ds => (seqOf? b).map fun es => (ds.zip es).map fun p => .tup [p.1, p.2]
  | _ => none
section
variable {X : Cx} {G : Gx} {W : WX} {H0 F0 H F H1 F1 : Hp} {sl sl1 : Sl} {σ : L2.St}
theorem walk_zipB {K : PySem.W.Frag} {k1 k2 : Bool} {a b : Addr} {xs ys : List V} {n : Nat} (hn : n = min xs.length ys.length) : Walk (ZG.ItzB K k1 k2 a b) n (fun H => ZG.SqV k1 K H a xs ∧ ZG.SqV k2 K H b ys) (YPair (fun i => xs[i]?) (fun i => ys[i]?)) := by
  subst hn
  refine ⟨fun i _ hi q => ?_, fun _ q => ⟨xs, ys, q.1, q.2, by omega⟩, fun i H v H' _ q y => ?_⟩
  · have h1 : i < xs.length := by omega
    have h2 : i < ys.length := by omega
    exact ⟨xs, ys, xs[i], ys[i], q.1, q.2, by simp [h1], by simp [h2]⟩
  · obtain ⟨T, x, z, h1, h2, h3, h4, h5⟩ := y
    exact ⟨T, x, z, h1, h2, h3, h4 xs q.1, h5 ys q.2⟩
theorem rep_seq {K : PySem.W.Frag} {F H : Hp} {d : D} {ds : List D} {v : V} (sF : Same F H) (r : Rep K F d v) (e : seqOf? d = some ds) : ∃ (a : Addr) (b : Bool) (vs : List V), v = .ref a ∧ (∀ H', Same F H' → ZG.SqV b K H' a vs) ∧ Reps K F ds vs := by
  cases d with
  | lst es =>
    cases e
    obtain ⟨_, a, vs, rfl, ea, r⟩ := r
    exact ⟨a, false, vs, rfl, fun H' s => SqL.of (s _ _ ea), r⟩
  | tup es =>
    cases e
    obtain ⟨_, a, vs, rfl, ea, r⟩ := r
    exact ⟨a, true, vs, rfl, fun H' s => SqT.of (s _ _ ea), r⟩
  | _ => cases e
theorem di_zipB {e e2 tg : Expr} {as : MA} {p pos : Pos} (tgs : (∃ elts kk tpos, tg = .Tuple elts kk tpos) ∨ ∃ y ypos, tg = .Name y ypos) (hK : X.K = G.K) (hg : Gl X "zip") (hm : X.mg "zip" = none) (ha : DA X G W [e, e2] as) (hf : Fixed as)
    (hs : starEach [e, e2] X.env = (false, eval e X.env) :: starEach [e2] X.env := by rfl) (hpl : (backTo pos (starEach [e2] X.env)).any (·.1) = false := by rfl) :
    DI X G W tg (.Call (.Name "zip" p) [e, e2] [] pos) (miOf zipAny as) := by
  refine (ZG.piZip tgs hg hm ha hs hpl).mono fun σ H R q => ta_frz hf q fun H0 F0 ds vs items sl H1 F1 S r e k => ?_
  have pair : ∀ {ds es : List D} {xs ys : List V} {i : Nat} {Fx F H : Hp} {x : V} {H' : Hp}, Reps G.K Fx ds xs → Reps G.K Fx es ys → Same Fx F → Same F H → YPair (fun i => xs[i]?) (fun i => ys[i]?) i H x H' →
      ∃ d F1, ((ds.zip es).map fun p => D.tup [p.1, p.2])[i]? = some d ∧ GrowT G F H F1 H' ∧ Rep G.K F1 d x := by
    intro ds es xs ys i Fx F H x H' r1 r2 s1 s2 y
    obtain ⟨T, x1, x2, rfl, hT, rfl, e1, e2⟩ := y
    obtain ⟨d1, e3, r3⟩ := r1.getV e1
    obtain ⟨d2, e4, r4⟩ := r2.getV e2
    have s3 := s1.trans (Grow.allocF s2 (.tup [x1, x2]) hT).fsub
    refine ⟨.tup [d1, d2], upd F T (.tup [x1, x2]), ?_, GrowT.allocF s2 _ hT, ?_⟩
    · have : (ds.zip es)[i]? = some (d1, d2) := by rw [List.getElem?_zip_eq_some]; exact ⟨e3, e4⟩
      simp [this]
    · exact ⟨two_le, T, _, rfl, upd_same, _, _, rfl, Rep.mono s3 _ _ r3, _, _, rfl, Rep.mono s3 _ _ r4, rfl⟩
  unfold zipAny at e
  split at e
  · obtain ⟨ds, e1, e⟩ := Option.bind_eq_some_iff.mp e
    obtain ⟨es, e2, e3⟩ := Option.map_eq_some_iff.mp e
    subst e3
    simp only [Reps] at r
    obtain ⟨v, ws, rfl, r1, v2, ws2, rfl, r2, rfl⟩ := r
    obtain ⟨a, k1, xs, rfl, q1, r1⟩ := rep_seq S.sub r1 e1
    obtain ⟨b, k2, ys, rfl, q2, r2⟩ := rep_seq S.sub r2 e2
    rw [hK]
    exact ⟨a, b, k1, k2, xs, ys, rfl, q1 _ S.sub, q2 _ S.sub, k _ H1 ⟨F1, GrowT.refl S.sub, walk_ok (walk_zipB (K := G.K) (k1 := k1) (k2 := k2) (a := a) (b := b) (xs := xs) (ys := ys) rfl) (by simp [r1.length, r2.length]) (fun F H s1 s2 => ⟨q1 _ (s1.trans s2), q2 _ (s1.trans s2)⟩) fun i F H x H' hi s1 s2 y => pair r1 r2 s1 s2 y⟩⟩
  · cases e
end
end DL
end
section
set_option linter.all false
set_option maxRecDepth 100000
set_option maxHeartbeats 1000000
/-! min, max of a tuple of whole numbers, plain -/
namespace DL
open PySem L2 PySem.Spec PyProof.Rows
/-- min, max of lists, tuples, two numbers -/
def opMinT : List D → Option Rv
  | [.tup ds] => (ints? ds).bind fun bs => match bs with
    | [] => none
    | b :: r => some (.dat (.int (r.foldl min b)))
  | ds => opMin ds
def opMaxT : List D → Option Rv
  | [.tup ds] => (ints? ds).bind fun bs => match bs with
    | [] => none
    | b :: r => some (.dat (.int (r.foldl max b)))
  | ds => opMax ds
section
variable {X : Cx} {G : Gx} {W : WX}
theorem reads_ints {h : Heap} : ∀ {ns : List Int} {us : List Value}, Vals (ns.map V.int) us → ReadsAll h us (ns.map PyData.int) []
  | [], us, r => by cases r; exact .nil
  | n :: ns, us, r => by
    rw [List.map_cons] at r
    cases r with
    | cons r1 r2 =>
      obtain ⟨t, rfl⟩ := r1
      exact .cons (as := []) (bs := []) (.int n t) (reads_ints r2)
theorem dep_ints (ns : List Int) : PyData.depthAll (ns.map PyData.int) = 0 := by
  induction ns with
  | nil => rfl
  | cons n r ih => rw [List.map_cons]; unfold PyData.depthAll; rw [ih]; rfl
theorem alike_ints (ns : List Int) : PySem.W.AlikeAll (ns.map PyData.int) := by
  refine ⟨fun x hx y hy => ?_, fun x hx => ?_⟩
  · obtain ⟨i, _, rfl⟩ := List.mem_map.mp hx
    obtain ⟨j, _, rfl⟩ := List.mem_map.mp hy
    rfl
  · obtain ⟨i, _, rfl⟩ := List.mem_map.mp hx
    exact nofun
theorem call_minT (hc : X.calm = true) (hu : X.A.units + 64 < cLine) : CallR X (.builtin "min") (fun xs H Q => ∃ (a : Addr) (b : Int) (r : List Int), xs = [.ref a] ∧ SqT X.K H a ((b :: r).map V.int) ∧ Q (.int (r.foldl min b)) H) := by
  intro pins s σ H xs us Q I r h
  obtain ⟨a, b, ns, rfl, sq, q⟩ := h
  obtain ⟨its, rv, pl, _⟩ := I.tuple sq
  rw [Vals.ref1 r]
  refine PySem.W.min_tuple_data (I.ok.hd hc) (show s.heap.IsTuple a its.toArray from pl) (x := .int b) (xs := ns.map PyData.int) (as := []) (by simpa using reads_ints (h := s.heap) rv) (alike_ints (b :: ns)) (by have := dep_ints (b :: ns); rw [List.map_cons] at this; rw [this]; omega) fun i v h' tk bs _ rd k => ?_
  rw [PySem.W.minD_ints] at rd
  cases rd with
  | int _ t => exact ⟨.int (ns.foldl min b), H, I.kept k, ⟨t, rfl⟩, q⟩
theorem call_maxT (hc : X.calm = true) (hu : X.A.units + 64 < cLine) : CallR X (.builtin "max") (fun xs H Q => ∃ (a : Addr) (b : Int) (r : List Int), xs = [.ref a] ∧ SqT X.K H a ((b :: r).map V.int) ∧ Q (.int (r.foldl max b)) H) := by
  intro pins s σ H xs us Q I r h
  obtain ⟨a, b, ns, rfl, sq, q⟩ := h
  obtain ⟨its, rv, pl, _⟩ := I.tuple sq
  rw [Vals.ref1 r]
  refine PySem.W.max_tuple_data (I.ok.hd hc) (show s.heap.IsTuple a its.toArray from pl) (x := .int b) (xs := ns.map PyData.int) (as := []) (by simpa using reads_ints (h := s.heap) rv) (alike_ints (b :: ns)) (by have := dep_ints (b :: ns); rw [List.map_cons] at this; rw [this]; omega) fun i v h' tk bs _ rd k => ?_
  rw [PySem.W.maxD_ints] at rd
  cases rd with
  | int _ t => exact ⟨.int (ns.foldl max b), H, I.kept k, ⟨t, rfl⟩, q⟩
theorem k_minT (hK : X.K = G.K) (hc : X.calm = true) (hu : X.A.units + 64 < cLine) : ∃ r, CallR X (.builtin "min") r ∧ OpNOk G r opMinT := by
  obtain ⟨r, c, o⟩ := k_min (X := X) (G := G) hK hc
  refine ⟨_, CallR.or (call_minT hc hu) c, fun H F ds vs z Q sF tb p e k => ?_⟩
  unfold opMinT at e
  split at e
  · obtain ⟨bs, e1, e2⟩ := Option.bind_eq_some_iff.mp e
    split at e2
    · cases e2
    · cases e2
      obtain ⟨v, rfl, pk⟩ := one_peek p
      obtain ⟨_, a, vs, rfl, ea, r⟩ := pk.tup
      refine .inl ⟨a, _, _, rfl, ?_, k _ H F (GrowT.refl sF) rfl⟩
      rw [hK, ← ints_ok r e1]
      exact SqT.of (sF _ _ ea)
  · exact .inr (o H F _ vs z Q sF tb p e k)
theorem k_maxT (hK : X.K = G.K) (hc : X.calm = true) (hu : X.A.units + 64 < cLine) : ∃ r, CallR X (.builtin "max") r ∧ OpNOk G r opMaxT := by
  obtain ⟨r, c, o⟩ := k_max (X := X) (G := G) hK hc
  refine ⟨_, CallR.or (call_maxT hc hu) c, fun H F ds vs z Q sF tb p e k => ?_⟩
  unfold opMaxT at e
  split at e
  · obtain ⟨bs, e1, e2⟩ := Option.bind_eq_some_iff.mp e
    split at e2
    · cases e2
    · cases e2
      obtain ⟨v, rfl, pk⟩ := one_peek p
      obtain ⟨_, a, vs, rfl, ea, r⟩ := pk.tup
      refine .inl ⟨a, _, _, rfl, ?_, k _ H F (GrowT.refl sF) rfl⟩
      rw [hK, ← ints_ok r e1]
      exact SqT.of (sF _ _ ea)
  · exact .inr (o H F _ vs z Q sF tb p e k)
end
end DL
end
section
set_option linter.all false
set_option maxRecDepth 100000
set_option maxHeartbeats 1000000
/-! (a, b, ..) = a list -/
namespace DL
open PySem L2 PySem.Spec PyProof.Rows
def gLsts (is : List Nat) : MG := fun d sl => match d with
  | .lst ds => gSets is ds sl
  | _ => none
/-- (a, b, ..) = e, a list -/
def msUnpL (is : List Nat) (a : ME) : MS := fun sl => (a sl).sbind fun r sl1 => match frz r sl1 with
  | some (d, sl2) => (match gLsts is d sl2 with
    | some sl3 => .nx sl3
    | none => .bad)
  | none => .bad
section
variable {X : Cx} {G : Gx} {W : WX} {H0 F0 H F H1 F1 : Hp} {sl sl1 : Sl} {σ : L2.St}
theorem dg_lst {es : List Expr} {is : List Nat} {k : Nat} {pos : Pos} (hK : X.K = G.K) (hc : X.calm = true) (h : TgNames X es is) (hn : (assignEach es X.env).length = is.length := by rfl) (hst : (assignEach es X.env).findIdx? (·.1) = none := by rfl) : DG X G (.Tuple es k pos) (gLsts is) :=
  (pg_unl hc (names_pgs h) hn hst).mono fun v σ H Q ⟨H0, F0, F, sl, d, sl1, S, r, e, k⟩ => by
    unfold gLsts at e
    split at e
    · obtain ⟨hz, a, vs, rfl, ea, r⟩ := r
      exact ⟨a, vs, rfl, by rw [hK]; exact SqL.of (S.sub _ _ ea), by rw [r.length, gSets_len e], gNames_ok S r e k⟩
    · cases e
theorem ds_unpL {es : List Expr} {is : List Nat} {k : Nat} {e : Expr} {m : ME} {p pos : Pos} (hK : X.K = G.K) (hc : X.calm = true) (h : TgNames X es is) (he : DE X G W e m) (hn : (assignEach es X.env).length = is.length := by rfl) (hst : (assignEach es X.env).findIdx? (·.1) = none := by rfl)
    (hs : swapsWithSole [.Tuple es k p] e pos.line X.env = pure false := by rfl) (hw : swappedStores [.Tuple es k p] e X.env = pure none := by rfl) (h1 : (assignEach [.Tuple es k p] X.env).map (·.2) = [assign (.Tuple es k p) X.env] := by rfl) :
    DS X G W (.Assign [.Tuple es k p] e pos) (msUnpL is m) :=
  (ps_asg he (dg_lst hK hc h hn hst) hs hw h1).mono fun D σ H ⟨H0, F0, F, sl, S, q⟩ => TEd.sbind S q fun r sl1 v H1 F1 S1 s1 R1 q1 => by
    cases e1 : frz r sl1 with
    | none => rw [e1] at q1; exact q1.elim
    | some p =>
      obtain ⟨d, sl2⟩ := p
      rw [e1] at q1
      dsimp only at q1
      obtain ⟨F2, S2, s2, R2⟩ := frz_ok S1 R1 e1
      cases e2 : gLsts is d sl2 with
      | none => rw [e2] at q1; exact q1.elim
      | some sl3 =>
        rw [e2] at q1
        exact ⟨H0, F0, F2, sl2, d, sl3, S2, R2, e2, fun σ' S3 => q1 σ' H1 F2 S3 s2⟩
end
end DL
end
section
set_option linter.all false
set_option maxRecDepth 100000
set_option maxHeartbeats 1000000
/-! dict(x): of pairs, a copy -/
namespace DL
open PySem L2 PySem.Spec PyProof.Rows
def opDictA : List D → Option Rv
  | [.dct kvs] => some (.new (.dct kvs))
  | ds => opDictP ds
section
variable {X : Cx} {G : Gx}
theorem k_dictA (hK : X.K = G.K) (hc : X.calm = true) : ∃ r, CallR X (.type "dict") r ∧ OpNOk G r opDictA := by
  obtain ⟨r, c, o⟩ := k_dictP (X := X) (G := G) hK hc
  refine ⟨_, CallR.or call_dictD c, fun H F ds vs z Q sF tb p e k => ?_⟩
  unfold opDictA at e
  split at e
  · cases e
    obtain ⟨v, rfl, pk⟩ := one_peek p
    obtain ⟨a, ws, rfl, ea, r⟩ := pk.dct sF
    exact .inl ⟨a, ws, rfl, .inl ea, fun p hp => k _ _ F (GrowT.alloc sF _ hp) ⟨p, rfl, notF sF hp, hp, _, upd_same, r⟩⟩
  · exact .inr (o H F _ vs z Q sF tb p e k)
end
end DL
end
section
set_option linter.all false
set_option maxRecDepth 100000
set_option maxHeartbeats 1000000
/-! x in a tuple of data of any depth -/
namespace DL
open PySem L2 PySem.Spec PyProof.Rows
def opInT (x : D) : D → Option Rv
  | .tup ds => if x.laid = true ∧ D.laids ds = true ∧ x.dep ≤ 60 ∧ D.deps ds ≤ 60 then some (.dat (.bl (ds.any fun z => D.eqv z x))) else none
  | _ => none
section
variable {X : Cx} {G : Gx}
theorem op_inTD (hu : X.A.units + 65 < cLine) : OpR X (compareOp .In) (fun x y H Q => ∃ d ds, Dp X.K H x d ∧ Dp X.K H y (.tuple ds) ∧ SeqAt.shaped d = true ∧ SeqAt.shaped (.list ds) = true ∧ Q (.bl (ds.any fun z => PyData.eqv z d)) H) := by
  intro pins s σ H x y v u Q I rx ry h
  obtain ⟨d, ds, hd, he, sd, se, q⟩ := h
  obtain ⟨as, r1⟩ := Dp.reads I d x v hd rx
  obtain ⟨bs, r2⟩ := Dp.reads I (.tuple ds) y u he ry
  exact SeqAt.in_tuple_reads r2 r1 (SeqAt.canLay_of_shaped se) (SeqAt.canLay_of_shaped sd) (room_in_shaped sd hu) ⟨.bl _, H, I, rfl, q⟩
theorem c_inT (hK : X.K = G.K) (hu : X.A.units + 65 < cLine) : ∃ r, OpR X (compareOp .In) r ∧ Op2Ok G r opInT := by
  refine ⟨_, op_inTD hu, fun H F x y v w z Q sF tb px py e k => ?_⟩
  rw [hK]
  cases y with
  | tup ds =>
    simp only [opInT] at e
    split at e
    · rename_i h
      cases e
      obtain ⟨h1, h2, h3, h4⟩ := h
      obtain ⟨_, a, vs, rfl, ea, r⟩ := py.tup
      have p1 : Dp G.K H v x.toP := by
        have q := px.dp sF (d := x)
        cases x <;> first | exact q h1 | (simp [D.laid] at h1)
      refine ⟨x.toP, D.toPs ds, p1, .tup (SqT.of (sF _ _ ea)) (reps_dp sF ds vs h2 r), ?_, ?_, ?_⟩
      · unfold SeqAt.shaped
        rw [toP_lay x h1, toP_dep x h1, decide_eq_true (by omega)]
        rfl
      · have l1 : (PyData.list (D.toPs ds)).canLay0 = true := by simp only [PyData.canLay0]; exact toPs_lay ds h2
        have l2 : (PyData.list (D.toPs ds)).depth = D.deps ds + 1 := by simp only [PyData.depth, toPs_dep ds h2]
        unfold SeqAt.shaped
        rw [l1, l2, decide_eq_true (by omega)]
        rfl
      · rw [toPs_any x h1 ds h2]
        exact k _ H F (GrowT.refl sF) rfl
    · cases e
  | _ => cases e
end
end DL
end
section
set_option linter.all false
set_option maxRecDepth 100000
set_option maxHeartbeats 1000000
/-! enumerate of a list or a tuple -/
namespace ZG
open PySem
open PySem.Sem (wp)
section
variable {prog : Program} {w : World} {A : Around} {E : Value → Shared → Prop} {s : Shared} {e it l : Addr} {i : Nat} {xs : Array Value} {P1 : Heap → Nat → Prop}
theorem enumItem {x old : Value} {Q : Value → Shared → Prop} (S1 : SeqIt prog w it l xs P1) (ne : e ≠ it) (nl : l ≠ e) (ge : IsEnum s.heap e it i old) (p1 : P1 s.heap i) (ex : xs[i]? = some x)
    (q : ∀ h', IsEnumOut h' e it ((i : Int) + 1) x s.heap.objs.size → P1 h' (i + 1) → h'.get? s.heap.objs.size = some { cls := .type "tuple", data := .seq #[.int i s.toks, x] } → h'.objs.size = s.heap.objs.size + 1 →
      (∀ b o, b ≠ e → b ≠ it → s.heap.get? b = some o → h'.get? b = some o) → Q (.ref s.heap.objs.size) { s with heap := h', toks := s.toks + 1 }) :
    wpAny (model prog w) A (Builtin.«enumerate.__next__» ⟨[.ref e], []⟩) (fun fin s' => ∃ v, fin = .done (.ret v) ∧ Q v s') E s := by
  obtain ⟨hp, g, d, tk, os⟩ := s
  refine wpAny_bind (m := field (.ref e) 2) (wpAny_field ge rfl (x := .ref it) rfl ?_)
  refine wpAny_bind (S1.item p1 ex fun u1 t1 b1 => ?_)
  have m1 := b1.extBut
  have g1 : IsEnum u1 e it i old := m1 _ _ ne ge
  refine wpAny_bind (m := field (.ref e) 3) (wpAny_field g1 rfl (x := rawInt i) rfl ?_)
  refine wpAny_bind (m := field (.ref e) 4) (wpAny_field g1 rfl (x := .none) rfl ?_)
  refine wpAny_bind (m := mkInt i) (wpAny_mkInt ?_)
  refine wpAny_bind (m := setField (.ref e) 3 (rawInt ((i : Int) + 1))) (wpAny_setField_rec g1 (by simp) fun u2 g2 b2 => ?_)
  replace g2 : IsEnum u2 e it ((i : Int) + 1) old := g2
  refine wpAny_bind (m := setField (.ref e) 4 .none) (wpAny_setField_rec g2 (by simp) fun u3 g3 b3 => ?_)
  replace g3 : IsEnum u3 e it ((i : Int) + 1) old := g3
  refine wpAny_bind (m := newTuple [.int i tk, x]) (wpAny_newTuple ?_)
  have m2 := b2.extBut
  have m3 := b3.extBut
  have sz : u3.objs.size = hp.objs.size := by rw [b3.1, b2.1, b1.1]
  have t3 : P1 u3 (i + 1) := S1.move (S1.move t1 (fun o r => m2 _ _ ne.symm r) fun o r => m2 _ _ nl r) (fun o r => m3 _ _ ne.symm r) fun o r => m3 _ _ nl r
  have up : ∀ {c o}, u3.get? c = some o → (u3.push { cls := .type "tuple", data := .seq #[.int i tk, x] }).get? c = some o := fun r => Heap.get?_push_of_some _ r
  have g4 := up g3
  have t4 : P1 (u3.push { cls := .type "tuple", data := .seq #[.int i tk, x] }) (i + 1) := S1.move t3 (fun o r => up r) fun o r => up r
  have T4 : (u3.push { cls := .type "tuple", data := .seq #[.int i tk, x] }).get? u3.objs.size = some { cls := .type "tuple", data := .seq #[.int i tk, x] } := Heap.get?_push_size _ rfl
  have sz4 : (u3.push { cls := .type "tuple", data := .seq #[.int i tk, x] }).objs.size = u3.objs.size + 1 := Heap.size_push ..
  have k4 : ∀ b o, b ≠ e → b ≠ it → hp.get? b = some o → (u3.push { cls := .type "tuple", data := .seq #[.int i tk, x] }).get? b = some o := fun b o n1 n2 r => up (m3 _ _ n1 (m2 _ _ n1 (m1 _ _ n2 r)))
  have el : e < hp.objs.size := Heap.lt_size ge
  rw [sz] at T4 sz4 ⊢
  generalize (u3.push { cls := .type "tuple", data := .seq #[.int i tk, x] }) = u4 at g4 t4 T4 sz4 k4 ⊢
  refine wpAny_bind (m := Builtin.SmallTypes.ownedTupleIsFree (.ref e)) ?_
  unfold Builtin.SmallTypes.ownedTupleIsFree
  refine wpAny_bind (wpAny_field g4 rfl (x := .none) rfl (wpAny_pure ?_))
  simp only [if_true]
  refine wpAny_bind (wpAny_rule ?_)
  refine wpAny_bind (wpAny_field g4 rfl (x := old) rfl ?_)
  refine wpAny_bind (wpAny_setField_rec g4 (by simp) fun u5 g5 b5 => ?_)
  replace g5 : IsEnum u5 e it ((i : Int) + 1) x := g5
  refine wpAny_bind (m := Builtin.SmallTypes.ownedTupleHandOut (.ref e) (.ref hp.objs.size)) ?_
  unfold Builtin.SmallTypes.ownedTupleHandOut
  refine wpAny_bind (wpAny_setField_rec g5 (by simp) fun u6 g6 b6 => ?_)
  replace g6 : IsEnumOut u6 e it ((i : Int) + 1) x hp.objs.size := g6
  refine wpAny_setField_rec g6 (by simp) fun u7 g7 b7 => ?_
  replace g7 : IsEnumOut u7 e it ((i : Int) + 1) x hp.objs.size := g7
  have back : ∀ c o, c ≠ e → u4.get? c = some o → u7.get? c = some o := fun c o n r => b7.extBut _ _ n (b6.extBut _ _ n (b5.extBut _ _ n r))
  exact wpAny_bind (wpAny_letGo (wpAny_pure ⟨_, rfl, q u7 g7 (S1.move t4 (fun o r => back _ o ne.symm r) fun o r => back _ o nl r) (back _ _ (Nat.ne_of_gt el) T4) (by rw [b7.1, b6.1, b5.1, sz4]) fun b o n1 n2 r => back b o n1 (k4 b o n1 n2 r)⟩))
theorem pyEnum {x old : Value} {Q : Option Value → Shared → Prop} (S1 : SeqIt prog w it l xs P1) (ne : e ≠ it) (nl : l ≠ e) (ge : IsEnum s.heap e it i old) (p1 : P1 s.heap i) (ex : xs[i]? = some x)
    (q : ∀ h', IsEnumOut h' e it ((i : Int) + 1) x s.heap.objs.size → P1 h' (i + 1) → h'.get? s.heap.objs.size = some { cls := .type "tuple", data := .seq #[.int i s.toks, x] } → h'.objs.size = s.heap.objs.size + 1 →
      (∀ b o, b ≠ e → b ≠ it → s.heap.get? b = some o → h'.get? b = some o) → Q (some (.ref s.heap.objs.size)) { s with heap := h', toks := s.toks + 1 }) :
    wpAny (model prog w) A (pyNext (.ref e)) Q E s := by
  have ty : s.TypeIs (.ref e) "enumerate" := ⟨_, ge, rfl⟩
  unfold pyNext
  exact wpAny_bind (wpAny_attempt (wpAny_callSpecial?_slot (name := Str.ofString "__next__") ty F.slot_enumerate_next
    (wpAny_call_entry F.slot_enumerate_next ty F.entry_enumerate_next (enumItem S1 ne nl ge p1 ex fun h' a b c d k => wpAny_pure (q h' a b c d k)) (F.args_enumerate_next_1 _))))
theorem pyEnumEnd {old : Value} {Q : Option Value → Shared → Prop} (hh : A.handled = none) (S1 : SeqIt prog w it l xs P1) (ge : IsEnum s.heap e it i old) (p1 : P1 s.heap i) (no : xs[i]? = none)
    (q : ∀ h', Heap.ExtBut it s.heap h' → Q none { s with heap := h' }) : wpAny (model prog w) A (pyNext (.ref e)) Q E s := by
  have ty : s.TypeIs (.ref e) "enumerate" := ⟨_, ge, rfl⟩
  unfold pyNext
  refine wpAny_bind (wpAny_attempt (wpAny_callSpecial?_slot (name := Str.ofString "__next__") ty F.slot_enumerate_next
    (wpAny_call_entry F.slot_enumerate_next ty F.entry_enumerate_next ?_ (F.args_enumerate_next_1 _))))
  refine wpAny_bind (m := field (.ref e) 2) (wpAny_field ge rfl (x := .ref it) rfl ?_)
  refine wpAny_bind (S1.ends hh p1 no fun h' x keep hx => ?_)
  obtain ⟨o, e1, e2⟩ := hx
  exact wpAny_bind (wpAny_isInstance (T := "StopIteration") (b := true) ⟨o, e1, e2⟩ isSubtype_stop (wpAny_pure (q _ keep)))
end
theorem madeE (l : Addr) (xs : Array Value) :
    Meets (Builtin.«enumerate.__new__» ⟨[.type "enumerate", .ref l], []⟩) (fun _ R s => s.heap.IsTuple l xs ∧
      R (.ok (.ret (.ref (nw1 true s.heap l).objs.size))) { s with heap := (nw1 true s.heap l).push { cls := .type "enumerate", data := .fields #[.none, .bool false, .ref s.heap.objs.size, rawInt 0, .none, .none] } }) :=
  .of_wp fun prog w A R s h => by
    obtain ⟨hp, g, d, tk, os⟩ := s; obtain ⟨pl, h⟩ := h
    have hsub := sub_enumerate
    have t1 : Heap.IsTuple (Shared.heap ⟨hp, g, d, tk, os⟩) l xs := pl
    obtain ⟨ol, e1, e2, n, e3⟩ := id pl
    wp_walk using AutoSeq1.wpAny_loadPart' e1
    refine wpAny_stack_any fun st => wpAny_pure ?_
    split
    · rename_i c _ _ _ _ _
      cases (c == Value.type "enumerate")
      · wp_walk using AutoSeq1.wpAny_loadPart' e1, wpAny_pyIter_tuple t1
        exact ⟨_, rfl, h⟩
      · wp_walk using AutoSeq1.wpAny_loadPart' e1, wpAny_pyIter_tuple t1
        exact ⟨_, rfl, h⟩
    · wp_walk using AutoSeq1.wpAny_loadPart' e1, wpAny_pyIter_tuple t1
      exact ⟨_, rfl, h⟩
section
variable {prog : Program} {w : World} {A : Around} {E : Value → Shared → Prop} {s : Shared}
theorem callEnum {b : Bool} {l : Addr} {xs : Array Value} {Q : Value → Shared → Prop} (pl : SqB b s.heap l xs)
    (h : ∀ h', IsEnum h' (s.heap.objs.size + 1) s.heap.objs.size 0 .none → ItB b s.heap.objs.size l xs h' 0 → h'.objs.size = s.heap.objs.size + 2 →
      (∀ b o, s.heap.get? b = some o → h'.get? b = some o) → Q (.ref (s.heap.objs.size + 1)) { s with heap := h' }) :
    wpAny (model prog w) A (call (.type "enumerate") [.ref l]) Q E s := by
  cases b with
  | false => exact call_enumerate_list pl fun h' a b c d => h h' a ⟨b, pl.at fun o e => d _ o e⟩ c d
  | true =>
    refine callType_new F.called_enumerate (by decide) (F.typeCall_enumerate_1 _) (F.newCall_enumerate_1 _) (fun obj => F.args_object_init_2 obj _) F.entry_enumerate_new (madeE l xs) ⟨pl, ?_⟩
    have n1 : (nw1 true s.heap l).objs.size = s.heap.objs.size + 1 := Heap.size_push ..
    have all : ∀ a o, s.heap.get? a = some o → ((nw1 true s.heap l).push { cls := .type "enumerate", data := .fields #[.none, .bool false, .ref s.heap.objs.size, rawInt 0, .none, .none] }).get? a = some o := fun a o e => Heap.get?_push_of_some _ (Heap.get?_push_of_some _ e)
    have g2 : ((nw1 true s.heap l).push { cls := .type "enumerate", data := .fields #[.none, .bool false, .ref s.heap.objs.size, rawInt 0, .none, .none] }).get? (nw1 true s.heap l).objs.size = some _ := Heap.get?_push_size _ rfl
    show _ ∧ _
    rw [n1] at g2 ⊢
    exact ⟨⟨_, g2, rfl⟩, h _ g2 ⟨⟨_, Heap.get?_push_of_some _ (Heap.get?_push_size _ rfl), rfl, rfl⟩, pl.at fun o e => all _ o e⟩ (by rw [Heap.size_push, n1]) all⟩
end
end ZG
end
section
set_option linter.all false
set_option maxRecDepth 100000
set_option maxHeartbeats 1000000
/-! enumerate of a list or a tuple: the hand layer's turn -/
namespace ZG
open PySem PySem.Spec PyProof.Rows L2
def IteB (K : PySem.W.Frag) (k1 : Bool) (a : Addr) : It :=
  ⟨fun i H => ∃ (xs : List V) (x : V), SqV k1 K H a xs ∧ xs[i]? = some x, fun i H v H' => ∃ T x, v = .ref T ∧ H T = none ∧ H' = upd H T (.tup [.int (i : Nat), x]) ∧ ∀ xs, SqV k1 K H a xs → xs[i]? = some x, fun i H => ∃ xs : List V, SqV k1 K H a xs ∧ xs.length ≤ i⟩
theorem turnE {P : Program} {w : World} {K : PySem.W.Frag} {elts : List Expr} {kk : Nat} {tpos : Pos} {a e it : Addr} {k1 : Bool} (ne : e ≠ it) (na : a ≠ e) (ni : it ≠ a) :
    Turn P w K (.Tuple elts kk tpos) (IteB K k1 a) [e, it] e (fun i h => (∃ old, IsEnum h e it ((i : Nat) : Int) old) ∧ ItO k1 h it a i) where
  mem := by simp
  obj := fun i h st c hc => by
    obtain ⟨⟨old, ge⟩, t1⟩ := st
    have r : c = e ∨ c = it := by simpa using hc
    rcases r with r | r
    · rw [r]; exact ⟨_, ge, fun v q => nomatch q⟩
    · rw [r]; exact t1.obj
  keep := fun i h h' st u => let ⟨⟨old, ge⟩, t1⟩ := st; ⟨⟨old, u e (by simp) _ ge⟩, t1.move fun o q => u it (by simp) o q⟩
  item := by
    intro X hP hw hK hc i pins s σ H E I hf st hg
    subst hP hw hK
    obtain ⟨⟨old, ge⟩, t1⟩ := st
    obtain ⟨xs, x, hx, ex⟩ := hg
    obtain ⟨is1, v1, q1, _⟩ := sqv_at I hx
    obtain ⟨u, eu, ru⟩ := v1.get ex
    have el : e < s.heap.objs.size := Heap.lt_size ge
    refine pyEnum (seqB k1 ni) ne na ge (t1.on q1) (x := u) (by simpa using eu) fun h' go t1' gT hsz up => ?_
    refine ⟨_, rfl, wpAny_letOwnedTupleGo_enum (s := { s with heap := h', toks := s.toks + 1 }) go fun h'' ge' sb => ?_⟩
    have back : ∀ c o, c ≠ e → h'.get? c = some o → h''.get? c = some o := fun c o n r => (sb.2 _ n).trans r
    have gT2 := back _ _ (Nat.ne_of_gt el) gT
    have new : ObjOk X.prog X.w (upd H s.heap.objs.size (.tup [.int (i : Nat), x])) h'' s.heap.objs.size (.tup [.int (i : Nat), x]) :=
      ⟨by show 2 ≤ sizeLine; decide, [.int i s.toks, u], .cons ⟨_, rfl⟩ (.cons ru .nil), ⟨_, gT2, rfl, _, rfl⟩⟩
    have I1 : Inv X pins σ (upd H s.heap.objs.size (.tup [.int (i : Nat), x])) { s with heap := h'', toks := s.toks + 1 } :=
      I.turnedNew (ch := [e, it]) (fun b ob hb q => back b ob (fun z => hb (by simp [z])) (up b ob (fun z => hb (by simp [z])) (fun z => hb (by simp [z])) q)) hf (Nat.le_refl _) new
    have e1 : ((i + 1 : Nat) : Int) = (i : Int) + 1 := by omega
    refine ⟨.ref s.heap.objs.size, _, I1, rfl, ⟨_, x, rfl, I.hok.fresh (Nat.le_refl _), rfl, fun ys hy => by rw [sqv_inj I hy hx]; exact ex⟩, ⟨⟨u, by rw [e1]; exact ge'⟩, t1'.o.move fun o q => back _ o (Ne.symm ne) q⟩, fun b hb => ?_⟩
    have lt : b < s.heap.objs.size := by
      have r : b = e ∨ b = it := by simpa using hb
      rcases r with r | r
      · rw [r]; exact el
      · rw [r]; obtain ⟨_, e1, _⟩ := t1.obj; exact Heap.lt_size e1
    rw [upd_ne (Nat.ne_of_lt lt)]
    exact (hf b hb).1
  done := by
    intro X hP hw hK hc i pins s σ H E I hf st hg
    subst hP hw hK
    obtain ⟨⟨old, ge⟩, t1⟩ := st
    obtain ⟨xs, hx, no⟩ := hg
    obtain ⟨is1, v1, q1, _⟩ := sqv_at I hx
    obtain ⟨f0, f1, f2, f3, f4, f5⟩ := hf it (by simp)
    have l1 := v1.length
    exact pyEnumEnd (I.ok.hd hc) (seqB k1 ni) ge (t1.on q1) (by simp; omega) fun h' eb => ⟨rfl, I.turned (t' := s.toks) (fun b o hb q => eb b o hb q) f0 f1 f3 f4 f5⟩
  self := fun A i s Q E st h => let ⟨⟨_, ge⟩, _⟩ := st; wpAny_pyIter_enum ge h
def iEnumB (K : PySem.W.Frag) (ta : TA) : TI := fun σ H R => ta σ H fun vs H1 => ∃ (a : Addr) (k1 : Bool) (xs : List V), vs = [.ref a] ∧ SqV k1 K H1 a xs ∧ R (IteB K k1 a) H1
theorem piEnum {X : Cx} {e : Expr} {ta : TA} {p pos tpos : Pos} {elts : List Expr} {kk : Nat} (hg : Gl X "enumerate") (hm : X.mg "enumerate" = none) (ha : PA X [e] ta) (hs : starEach [e] X.env = [(false, eval e X.env)] := by rfl) :
    PI X (.Tuple elts kk tpos) (.Call (.Name "enumerate" p) [e] [] pos) (iEnumB X.K ta) := by
  refine ⟨fun pins s σ H R I h => ?_⟩
  refine Call_ (ld_blt I hg hm boot_enumerate (PyProof.Rows.callWith_type1 (thn (ha.run pos pins s σ H _ I h) fun us s1 ⟨vs, H1, I1, r1, q⟩ => ?_) hs rfl))
  obtain ⟨a, k1, xs, ex, hx, q⟩ := q
  subst ex
  cases r1 with
  | cons ra rr =>
    cases rr; cases ra
    obtain ⟨is1, v1, pl1, _⟩ := sqv_at I1 hx
    have la := pl1.lt
    refine callEnum pl1 fun h' ge t1 hsz up => wpAny_pyIter_enum ge ?_
    have I2 : Inv X pins σ H1 { s1 with heap := h' } := I1.kept (t' := s1.toks) up
    refine ⟨s1.heap.objs.size + 1, [s1.heap.objs.size + 1, s1.heap.objs.size], _, _, H1, rfl, I2, turnE (k1 := k1) (Nat.succ_ne_self _) (Nat.ne_of_lt (Nat.lt_succ_of_lt la)) (Nat.ne_of_gt la), ⟨⟨.none, ge⟩, t1.o⟩, fun b hb => ?_, q⟩
    have le : s1.heap.objs.size ≤ b := by
      simp only [List.mem_cons, List.not_mem_nil, or_false] at hb
      rcases hb with r | r <;> rw [r] <;> first | exact Nat.le_refl _ | exact Nat.le_add_right _ _
    exact I1.fpOk le (I1.hok.fresh le)
end ZG
end
section
set_option linter.all false
set_option maxRecDepth 100000
set_option maxHeartbeats 1000000
/-! enumerate of a list or a tuple, plain -/
namespace DL
open PySem L2 PySem.Spec PyProof.Rows
def enumAny : List D → Option (List D)
  | [a] => (seqOf? a).map fun ds => enumFrom 0 ds
  | _ => none
section
variable {X : Cx} {G : Gx} {W : WX} {H0 F0 H F H1 F1 : Hp} {sl sl1 : Sl} {σ : L2.St}
theorem walk_enumB {K : PySem.W.Frag} {k1 : Bool} {a : Addr} {xs : List V} : Walk (ZG.IteB K k1 a) xs.length (fun H => ZG.SqV k1 K H a xs) (fun i H v H' => ∃ T x, v = .ref T ∧ H T = none ∧ H' = L2.upd H T (.tup [.int (i : Nat), x]) ∧ xs[i]? = some x) := by
  refine ⟨fun i _ hi q => ⟨xs, xs[i], q, List.getElem?_eq_getElem hi⟩, fun _ q => ⟨xs, q, Nat.le_refl _⟩, fun i H v H' _ q y => ?_⟩
  obtain ⟨T, x, h1, h2, h3, h4⟩ := y
  exact ⟨T, x, h1, h2, h3, h4 xs q⟩
theorem di_enumB {e : Expr} {as : MA} {p pos tpos : Pos} {elts : List Expr} {kk : Nat} (hK : X.K = G.K) (hg : Gl X "enumerate") (hm : X.mg "enumerate" = none) (ha : DA X G W [e] as) (hf : Fixed as) (hs : starEach [e] X.env = [(false, eval e X.env)] := by rfl) :
    DI X G W (.Tuple elts kk tpos) (.Call (.Name "enumerate" p) [e] [] pos) (miOf enumAny as) := by
  refine (ZG.piEnum hg hm ha hs).mono fun σ H R q => ta_frz hf q fun H0 F0 ds vs items sl H1 F1 S r e k => ?_
  unfold enumAny at e
  split at e
  · obtain ⟨es, e1, e2⟩ := Option.map_eq_some_iff.mp e
    subst e2
    simp only [Reps] at r
    obtain ⟨v, ws, rfl, r1, rfl⟩ := r
    obtain ⟨a, k1, xs, rfl, q1, r1⟩ := rep_seq S.sub r1 e1
    rw [hK]
    refine ⟨a, k1, xs, rfl, q1 _ S.sub, k _ H1 ⟨F1, GrowT.refl S.sub, walk_ok (walk_enumB (K := G.K) (k1 := k1) (a := a) (xs := xs)) (by rw [enum_len, r1.length]) (fun F H s1 s2 => q1 _ (s1.trans s2)) fun i F H x H' hi s1 s2 y => ?_⟩⟩
    obtain ⟨T, x2, rfl, hT, rfl, e2⟩ := y
    obtain ⟨d, e3, r3⟩ := r1.getV e2
    refine ⟨.tup [.int (i : Nat), d], L2.upd F T (.tup [.int (i : Nat), x2]), by rw [enum_get, e3]; simp, GrowT.allocF s2 _ hT, ?_⟩
    exact ⟨two_le, T, _, rfl, upd_same, _, _, rfl, rfl, _, _, rfl, Rep.mono (s1.trans (Grow.allocF s2 _ hT).fsub) _ _ r3, rfl⟩
  · cases e
end
end DL
end
section
set_option linter.all false
set_option maxRecDepth 100000
set_option maxHeartbeats 4000000
set_option autoImplicit false
namespace DL
open PySem L2 PySem.Spec PyProof.Rows HotX L2H LamX
section
variable {X : Cx} {G : Gx} {W : WX}
theorem hh65 {A : Around} {k : Nat} (hr : RoomH k A) : A.units + 65 < cLine := by have := hr.un; omega
theorem hh64 {A : Around} {k : Nat} (hr : RoomH k A) : A.units + 64 < cLine := by have := hr.un; omega
theorem hh1 {A : Around} {k : Nat} (hr : RoomH k A) : A.units + 1 < cLine := by have := hr.un; omega
theorem pe_intB {i : Nat} {x y : Str} {p1 p2 p3 : Pos} (hx : x = "int") (hg : Gl X x) (hm : X.mg x = none) (hv : PE X (.Name y p2) (tVar i)) (hst : starEach [.Name y p2] X.env = (false, eval (.Name y p2) X.env) :: starEach [] X.env := by rfl) (hpl : (backTo p3 (starEach [] X.env)).any (·.1) = false := by rfl) :
    PE X (.Call (.Name x p1) [.Name y p2] [] p3) (fun σ H Q => tVar i σ H fun v H1 => ∃ b, v = .bl b ∧ Q (.int (if b then 1 else 0)) H1) := by
  subst hx
  refine (pe_callTy call_int1 hg hm boot_int (pa_cons hv pa_nil hst) (he := hst) (hpl := hpl)).mono fun σ H Q h => ?_
  obtain ⟨v, e, b, rfl, q⟩ := h
  exact ⟨_, e, .inr ⟨b, rfl, q⟩⟩
/-- isinstance(e, C), the exception's class is c -/
theorem de_isX {a : Addr} {oe : Obj} {i : Nat} {c y : Str} {xs : List Str} {sup : Str} {e : Expr} {p pos p2 : Pos} (hx : ExcsF xs sup X.K X.mg) (hc : c ∈ xs) (hy : y ∈ xs) (hp : (a, oe) ∈ X.pn) (hz : Zc (.ref (He.ga X.K c)) none oe) (hf : ∃ vs, oe.data = .fields vs) (hg : Gl X "isinstance") (hm : X.mg "isinstance" = none) (he : PE X e (tVar i)) (hgy : Gl X y) (hmy : X.mg y = some (.ref (He.ga X.K y)))
    (hdb : (y == ("__debug__" : Str)) = false := by decide) (hst : starEach [e, .Name y p2] X.env = (false, eval e X.env) :: starEach [.Name y p2] X.env := by rfl) (hst2 : starEach [.Name y p2] X.env = (false, eval (.Name y p2) X.env) :: starEach [] X.env := by rfl) (hpl : (backTo pos (starEach [.Name y p2] X.env)).any (·.1) = false := by rfl) : DE X (G.at a) W (.Call (.Name "isinstance" p) [e, .Name y p2] [] pos) (mIsE i (decide (c = y))) :=
  de_isE rfl (hx.cls c hc) hp hz hf hg hm he (pe_gref hgy hmy hdb) (fun u r => r) (hx.kit c hc y hy) hst hst2 hpl
theorem de_isV {a : Addr} {oe : Obj} {i : Nat} {c : Str} {xs : List Str} {sup : Str} {e : Expr} {p pos p2 : Pos} (hx : ExcsF xs sup X.K X.mg) (hc : c ∈ xs) (hp : (a, oe) ∈ X.pn) (hz : Zc (.ref (He.ga X.K c)) none oe) (hf : ∃ vs, oe.data = .fields vs) (hg : Gl X "isinstance") (hm : X.mg "isinstance" = none) (he : PE X e (tVar i)) (hgy : Gl X "ValueError") (hmy : X.mg "ValueError" = none)
    (hst : starEach [e, .Name "ValueError" p2] X.env = (false, eval e X.env) :: starEach [.Name "ValueError" p2] X.env := by rfl) (hst2 : starEach [.Name "ValueError" p2] X.env = (false, eval (.Name "ValueError" p2) X.env) :: starEach [] X.env := by rfl) (hpl : (backTo pos (starEach [.Name "ValueError" p2] X.env)).any (·.1) = false := by rfl) : DE X (G.at a) W (.Call (.Name "isinstance" p) [e, .Name "ValueError" p2] [] pos) (mIsE i true) :=
  de_isE rfl (hx.cls c hc) hp hz hf hg hm he (pe_bltn hgy hmy (by decide +kernel) (v := .ty "ValueError") rfl) (fun u r => r) (hx.val c hc) hst hst2 hpl
end
section
variable {G : Gx} {fa : List He.Fa} {fn : List He.DefD} {mg : Str → Option Value}
theorem callF_bad {P : Program} {w : World} {base : Heap} {x : Str} {st : Stmt} {ps : List Str} (V : HF fa fn G mg) (i j : Nat)
    (hb : ∀ (kV doc pm : Value) (an : Option Addr) (cdv ct : Value) (us : List Value), us.length = ps.length → bindArgs (PySem.W.fnOf x x (defArgs st) (defBody st) (defScope st) .none kV doc pm an cdv ct) ⟨us, []⟩ = pure (ps.zip us))
    (hd : fn[i]? = some ⟨(x, none), x, x, defArgs st, defBody st, defScope st, [], []⟩ := by rfl) (hj : fa[j]? = some (.glo x) := by rfl) : CallF P w mg base G 0 x ps.length (fun _ => .bad) := by
  obtain ⟨fd, Fd⟩ := V.c.def_ i hd
  refine ⟨_, fd, ps, ⟨fun vs H Q E h => sp_len h, fun A outer s H args us vs Q E hr he hb2 hv h => ?_⟩, V.glo j hj, Fd.kp, Fd.bindsN hb⟩
  obtain ⟨F, as, el, sF, tb, nt, p, q⟩ := h
  exact q.elim
end
/-! ### where a def's lambdas stand -/
def subStmt (st : Stmt) (i : Nat) : Stmt := match st with
  | .For _ _ b _ _ => b.getD i (.Pass ⟨0, 0, 0, 0⟩)
  | .While _ b _ _ => b.getD i (.Pass ⟨0, 0, 0, 0⟩)
  | .If _ b _ _ => b.getD i (.Pass ⟨0, 0, 0, 0⟩)
  | st => st
instance : Inhabited LamSite := ⟨⟨⟨[], [], none, [], [], none, []⟩, .Name "" ⟨0, 0, 0, 0⟩, ⟨.function, [], false, false, []⟩⟩⟩
def siteOf : Expr → LamSite
  | .Lambda p b s _ => ⟨p, b, s⟩
  | .List es _ => (match es with
    | [.Lambda p b s _] => ⟨p, b, s⟩
    | _ => default)
  | .Call _ as _ _ => (match as with
    | [.Lambda p b s _] => ⟨p, b, s⟩
    | _ => default)
  | _ => default
def siteAt : Stmt → LamSite
  | .Assign _ v _ => siteOf v
  | .Expr v _ => siteOf v
  | _ => default
abbrev LamBs (X : Cx) (G : Gx) (kb : Nat) : List LamSite → List ME → Prop := Paired fun st m => LamB X G kb st.params st.body st.scope m
section
variable {X : Cx} {G : Gx} {W : WX} {sites : List LamSite} {ms : List ME}
theorem ds_lamsP {i id kb : Nat} {x : Str} {params : Arguments} {body : Expr} {scope : Scope} {lpos lp pos pos' : Pos} (hN : X.N.Nodup) (hi : X.N[i]? = some x) (hx : Loc X.env.scope x) (LH : LamH X G) (B : LamBs X (G.lams X sites) kb sites ms) (hid' : sites[id]? = some ⟨params, body, scope⟩)
    (hs : swapsWith (.List [.Lambda params body scope lpos] lp) (some (.Name x pos')) pos.line X.env = pure false := by rfl) (hst : starEach [.Lambda params body scope lpos] X.env = (false, eval (.Lambda params body scope lpos) X.env) :: starEach [] X.env := by rfl)
    (hf : X.fn x = true ∨ X.env.scope.names.lookup x = some .local := by first | exact .inl rfl | exact .inr rfl | assumption) :
    DS X (G.lams X sites) W (.Assign [.Name x pos'] (.List [.Lambda params body scope lpos] lp) pos) (msLams i id) :=
  let ⟨_, _, b⟩ := paired_get B hid'; ds_lams hN hi hx LH b hid' hs hst hf
theorem ds_lamAppP {i id kb : Nat} {o : Expr} {params : Arguments} {body : Expr} {scope : Scope} {lpos apos cpos pos : Pos} (hK : X.K = G.K) (h1 : PE X o (tVar i)) (LH : LamH X G) (B : LamBs X (G.lams X sites) kb sites ms) (hid' : sites[id]? = some ⟨params, body, scope⟩)
    (hbase : attributeBase o "append" X.env (eval o X.env) = eval o X.env := by rfl)
    (hfew : ((backTo cpos (starEach [.Lambda params body scope lpos] X.env)).all (fun x => !x.1) && (backToKw cpos (keywordEach [] X.env)).all (fun x => x.1.isSome)
      && decide (([.Lambda params body scope lpos] : List Expr).length + ([] : List Keyword).length + (if ([] : List Keyword).isEmpty then 0 else 1) < 30)) = true := by rfl)
    (hline : (apos.endLine == cpos.line) = true := by rfl) (hs : starEach [.Lambda params body scope lpos] X.env = (false, eval (.Lambda params body scope lpos) X.env) :: starEach [] X.env := by rfl) (hplain : (backTo cpos (starEach [] X.env)).any (·.1) = false := by rfl)
    (hsw : swapsWith (.Call (.Attribute o "append" apos) [.Lambda params body scope lpos] [] cpos) none pos.line X.env = pure false := by rfl) :
    DS X (G.lams X sites) W (.Expr (.Call (.Attribute o "append" apos) [.Lambda params body scope lpos] [] cpos) pos) (msLamApp i id) :=
  let ⟨_, _, b⟩ := paired_get B hid'; ds_lamApp hK h1 LH b hid' hbase hfew hline hs hplain hsw
theorem lamBs_at {kb : Nat} (B : LamBs X G kb sites ms) {id : Nat} {st : LamSite} {m : ME} (h1 : sites[id]? = some st) (h2 : ms[id]? = some m) : LamB X G kb st.params st.body st.scope m := by
  obtain ⟨m', e, h⟩ := paired_get B h1
  rw [h2] at e
  cases e
  exact h
theorem lamBs_S {kb : Nat} (B : LamBs X G kb sites ms) : ∀ st ∈ sites, LamS X.env.scope st.scope := fun st h => by
  obtain ⟨i, hi, e⟩ := List.mem_iff_getElem.mp h
  obtain ⟨_, _, b⟩ := paired_get B (i := i) (a := st) (by rw [List.getElem?_eq_getElem hi, e])
  exact b.L
theorem LamH.lams (h : LamH X G) : LamH X (G.lams X sites) := ⟨h.ex, h.fn⟩
end
end DL
end
section
set_option linter.all false
set_option maxRecDepth 100000
set_option maxHeartbeats 4000000
set_option autoImplicit false
namespace SM
open PySem DL
def s_is_count : MS := msRet (mAnd (mUn (fun d => (isTy "int" d).map fun k => .dat (.bl k)) (mVar 0)) (mAnd (mNot (mUn (fun d => (isTy "bool" d).map fun k => .dat (.bl k)) (mVar 0))) (mChain opLe opLe (mVar 1) (mVar 0) (mVar 2))))
def f_is_count : Fn := runFn 3 s_is_count
def s_is_name : MS := msRet (mAnd (mUn (fun d => (isTy "str" d).map fun k => .dat (.bl k)) (mVar 0)) (mAnd (mChain opLe opLe (mC (.int 1)) (mOp opLen (maCons (mVar 0) (maNil))) (mC (.int 6))) (mOp opAll (maCons (mLc [1] (miSeq (mVar 0)) (gSet 1) (mtYes) (mBin opIn (mVar 1) (mC (.str "abcdefghijklmnopqrstuvwxyz")))) (maNil)))))
def f_is_name : Fn := runFn 2 s_is_name
abbrev b_is_skill_1 : MS := msSeq (msIf (mtOr (mtNot (mtVal (mUn (fun d => (isTy "tuple" d).map fun k => .dat (.bl k)) (mVar 1)))) (mtOr (mtVal (mBin opNe (mOp opLen (maCons (mVar 1) (maNil))) (mC (.int 2)))) (mtNot (mtVal (mCall f_is_name (maCons (mBin opIx (mVar 1) (mC (.int 0))) (maNil))))))) (msRet (mC (.bl false))) (msNil))
  (msIf (mtNot (mtVal (mCall f_is_count (maCons (mBin opIx (mVar 1) (mC (.int 1))) (maCons (mC (.int 1)) (maCons (mC (.int 3)) (maNil))))))) (msRet (mC (.bl false))) (msNil))
def s_is_skill : MS := msSeq (msIf (mtOr (mtNot (mtVal (mUn (fun d => (isTy "tuple" d).map fun k => .dat (.bl k)) (mVar 0)))) (mtOr (mtVal (mBin opNe (mOp opLen (maCons (mVar 0) (maNil))) (mC (.int 4)))) (mtOr (mtNot (mtVal (mCall f_is_name (maCons (mBin opIx (mVar 0) (mC (.int 0))) (maNil))))) (mtNot (mtVal (mUn (fun d => (isTy "tuple" d).map fun k => .dat (.bl k)) (mBin opIx (mVar 0) (mC (.int 3))))))))) (msRet (mC (.bl false))) (msNil))
  (msSeq (msIf (mtOr (mtNot (mtVal (mCall f_is_count (maCons (mBin opIx (mVar 0) (mC (.int 1))) (maCons (mC (.int 1)) (maCons (mC (.int 3)) (maNil))))))) (mtNot (mtVal (mCall f_is_count (maCons (mBin opIx (mVar 0) (mC (.int 2))) (maCons (mC (.int 1)) (maCons (mC (.int 9)) (maNil)))))))) (msRet (mC (.bl false))) (msNil))
  (msSeq (msFor [1] (miSeq (mBin opIx (mVar 0) (mC (.int 3)))) (gSet 1)
  (b_is_skill_1))
  (msRet (mBin opEq (mUn opLenSet (mLc [1] (miSeq (mBin opIx (mVar 0) (mC (.int 3)))) (gSet 1) (mtYes) (mBin opIx (mVar 1) (mC (.int 0))))) (mOp opLen (maCons (mBin opIx (mVar 0) (mC (.int 3))) (maNil)))))))
def f_is_skill : Fn := runFn 2 s_is_skill
abbrev b_has_no_ring_1 : MS := msSeq (msSet 3 (mLc [4] (miSeq (mVar 1)) (gSet 4) (mtVal (mOp opAll (maCons (mLc [5] (miSeq (mBin opIx (mVar 4) (mC (.int 3)))) (gSet 5) (mtYes) (mBin opIn (mBin opIx (mVar 5) (mC (.int 0))) (mVar 2))) (maNil)))) (mVar 4)))
  (msSeq (msIf (mtVal (mBin opEq (mVar 3) (mLst (maNil)))) (msRet (mC (.bl false))) (msNil))
  (msSeq (msMut isLst 2 mmExtend (maCons (mLc [4] (miSeq (mVar 3)) (gSet 4) (mtYes) (mBin opIx (mVar 4) (mC (.int 0)))) maNil))
  (msSet 1 (mLc [4] (miSeq (mVar 1)) (gSet 4) (mtVal (mBin opNotIn (mVar 4) (mVar 3))) (mVar 4)))))
def s_has_no_ring : MS := msSeq (msSet 1 (mOp opList (maCons (mVar 0) (maNil))))
  (msSeq (msSet 2 (mLst (maNil)))
  (msSeq (msWhile [3] 12 (mtVal (mBin opNe (mVar 1) (mLst (maNil))))
  (b_has_no_ring_1))
  (msRet (mC (.bl true)))))
def f_has_no_ring : Fn := runFn 6 s_has_no_ring
abbrev b_are_locks_1 : MS := msSeq (msIf (mtOr (mtNot (mtVal (mUn (fun d => (isTy "tuple" d).map fun k => .dat (.bl k)) (mVar 2)))) (mtVal (mBin opNe (mOp opLen (maCons (mVar 2) (maNil))) (mC (.int 2))))) (msRet (mC (.bl false))) (msNil))
  (msIf (mtNot (mtVal (mOp opAll (maCons (mLc [3] (miSeq (mVar 2)) (gSet 3) (mtYes) (mAnd (mUn (fun d => (isTy "str" d).map fun k => .dat (.bl k)) (mVar 3)) (mBin opIn (mVar 3) (mVar 1)))) (maNil))))) (msRet (mC (.bl false))) (msNil))
def s_are_locks : MS := msSeq (msFor [2] (miSeq (mVar 0)) (gSet 2)
  (b_are_locks_1))
  (msRet (mAnd (mOp opAll (maCons (mLc [2] (miSeq (mVar 0)) (gSet 2) (mtYes) (mBin opLt (mBin opIx (mVar 2) (mC (.int 0))) (mBin opIx (mVar 2) (mC (.int 1))))) (maNil))) (mBin opEq (mUn opLenSet (mVar 0)) (mOp opLen (maCons (mVar 0) (maNil))))))
def f_are_locks : Fn := runFn 4 s_are_locks
abbrev b_is_tree_1 : MS := msIf (mtNot (mtVal (mOp opAll (maCons (mLc [5, 6] (miSeq (mBin opIx (mVar 2) (mC (.int 3)))) (gTups [5, 6]) (mtYes) (mAnd (mBin opIn (mVar 5) (mVar 1)) (mBin opLe (mVar 6) (mBin opIx (mVar 1) (mVar 5))))) (maNil))))) (msRet (mC (.bl false))) (msNil)
def s_is_tree : MS := msSeq (msIf (mtOr (mtNot (mtVal (mUn (fun d => (isTy "tuple" d).map fun k => .dat (.bl k)) (mVar 0)))) (mtOr (mtVal (mBin opNe (mOp opLen (maCons (mVar 0) (maNil))) (mC (.int 2)))) (mtNot (mtVal (mOp opAll (maCons (mLc [2] (miSeq (mVar 0)) (gSet 2) (mtYes) (mUn (fun d => (isTy "tuple" d).map fun k => .dat (.bl k)) (mVar 2))) (maNil))))))) (msRet (mC (.bl false))) (msNil))
  (msSeq (msUnp [3, 4] (mVar 0))
  (msSeq (msIf (mtOr (mtNot (mtVal (mChain opLe opLe (mC (.int 1)) (mOp opLen (maCons (mVar 3) (maNil))) (mC (.int 6))))) (mtNot (mtVal (mOp opAll (maCons (mLc [2] (miSeq (mVar 3)) (gSet 2) (mtYes) (mCall f_is_skill (maCons (mVar 2) (maNil)))) (maNil)))))) (msRet (mC (.bl false))) (msNil))
  (msSeq (msSet 1 (mOp opDictP (maCons (mLc [2] (miSeq (mVar 3)) (gSet 2) (mtYes) (mTup (maCons (mBin opIx (mVar 2) (mC (.int 0))) (maCons (mBin opIx (mVar 2) (mC (.int 1))) (maNil))))) (maNil))))
  (msSeq (msIf (mtVal (mBin opNe (mOp opLen (maCons (mVar 1) (maNil))) (mOp opLen (maCons (mVar 3) (maNil))))) (msRet (mC (.bl false))) (msNil))
  (msSeq (msFor [2] (miSeq (mVar 3)) (gSet 2)
  (b_is_tree_1))
  (msRet (mAnd (mCall f_has_no_ring (maCons (mVar 3) (maNil))) (mCall f_are_locks (maCons (mVar 4) (maCons (mVar 1) (maNil)))))))))))
def f_is_tree : Fn := runFn 7 s_is_tree
def s_need_tree : MS := msIf (mtNot (mtVal (mCall f_is_tree (maCons (mVar 0) (maNil))))) (msRaise "BadTree") (msNil)
def f_need_tree : Fn := runFn 1 s_need_tree
def s_names_of : MS := msRet (mLc [1] (miSeq (mBin opIx (mVar 0) (mC (.int 0)))) (gSet 1) (mtYes) (mBin opIx (mVar 1) (mC (.int 0))))
def f_names_of : Fn := runFn 2 s_names_of
def s_need_name : MS := msIf (mtOr (mtNot (mtVal (mUn (fun d => (isTy "str" d).map fun k => .dat (.bl k)) (mVar 1)))) (mtVal (mBin opNotIn (mVar 1) (mCall f_names_of (maCons (mVar 0) (maNil)))))) (msRaise "BadName") (msNil)
def f_need_name : Fn := runFn 2 s_need_name
abbrev b_chain_3 : MS := msIf (mtVal (mBin opNotIn (mVar 8) (mVar 4))) (msSeq (msMut isAny 4 mmPut (maCons (mC (.bl true)) (maCons (mVar 8) maNil)))
  (msMut isLst 5 mmAppend (maCons (mBin opAdd (mVar 6) (mLst (maCons (mVar 8) (maNil)))) maNil))) (msNil)
abbrev b_chain_2 : MS := msSeq (msIf (mtVal (mBin opEq (mBin opIx (mVar 6) (mUn opNeg (mC (.int 1)))) (mVar 2))) (msRet (mVar 6)) (msNil))
  (msSeq (msSet 7 (mBin opIx (mLc [10] (miSeq (mBin opIx (mVar 0) (mC (.int 0)))) (gSet 10) (mtVal (mBin opEq (mBin opIx (mVar 10) (mC (.int 0))) (mBin opIx (mVar 6) (mUn opNeg (mC (.int 1)))))) (mBin opIx (mVar 10) (mC (.int 3)))) (mC (.int 0))))
  (msFor [8, 9] (miSeq (mVar 7)) (gTups [8, 9])
  (b_chain_3)))
abbrev b_chain_1 : MS := msSeq (msSet 5 (mLst (maNil)))
  (msSeq (msFor [6, 7, 8, 9] (miSeq (mVar 3)) (gSet 6)
  (b_chain_2))
  (msSet 3 (mVar 5)))
def s_chain : MS := msSeq (msExpr (mCall f_need_tree (maCons (mVar 0) (maNil))))
  (msSeq (msExpr (mCall f_need_name (maCons (mVar 0) (maCons (mVar 1) (maNil)))))
  (msSeq (msExpr (mCall f_need_name (maCons (mVar 0) (maCons (mVar 2) (maNil)))))
  (msSeq (msPar 3 4 (mLst (maCons (mLst (maCons (mVar 1) (maNil))) (maNil))) (mDisp1 (mVar 1) (mC (.bl true))))
  (msSeq (msWhile [5, 6, 7, 8, 9] 12 (mtVal (mBin opNe (mVar 3) (mLst (maNil))))
  (b_chain_1))
  (msRet (mC .non))))))
def f_chain : Fn := runFn 11 s_chain
def s_wanting : MS := msSeq (msExpr (mCall f_need_tree (maCons (mVar 0) (maNil))))
  (msSeq (msExpr (mCall f_need_name (maCons (mVar 0) (maCons (mVar 1) (maNil)))))
  (msRet (mLc [2] (miSeq (mCall f_names_of (maCons (mVar 0) (maNil)))) (gSet 2) (mtAnd (mtVal (mBin opNe (mVar 2) (mVar 1))) (mtVal (mBin opIsNot (mCall f_chain (maCons (mVar 0) (maCons (mVar 2) (maCons (mVar 1) (maNil))))) (mC .non)))) (mVar 2))))
def f_wanting : Fn := runFn 3 s_wanting
def s__law_cell : MS := msSeq (msIf (mtVal (mBin opEq (mVar 0) (mLst (maNil)))) (msRet (mBin opMul (mVar 1) (mC (.int 7919)))) (msNil))
  (msRet (mBin opAdd (mBin opIx (mVar 0) (mBin opMod (mVar 1) (mOp opLen (maCons (mVar 0) (maNil))))) (mBin opMul (mBin opFdiv (mVar 1) (mOp opLen (maCons (mVar 0) (maNil)))) (mC (.int 104729)))))
def f__law_cell : Fn := runFn 2 s__law_cell
def s__law_drawn : MS := msSeq (msSet 2 (mBin opMod (mBin opAdd (mBin opMul (mVar 0) (mC (.int 6364136223846793005))) (mBin opMul (mBin opAdd (mVar 1) (mC (.int 1))) (mC (.int 1442695040888963407)))) (mC (.int 340282366920938463463374607431768211507))))
  (msSeq (msSet 2 (mBin opMod (mBin opMul (mVar 2) (mVar 2)) (mC (.int 340282366920938463463374607431768211297))))
  (msSeq (msSet 2 (mBin opMul (mBin opMul (mBin opAdd (mBin opMod (mVar 2) (mC (.int 18446744073709551557))) (mC (.int 1))) (mBin opAdd (mBin opFdiv (mVar 2) (mC (.int 18446744073709551557))) (mC (.int 1)))) (mVar 2)))
  (msRet (mBin opMod (mVar 2) (mC (.int 340282366920938463463374607431768211507))))))
def f__law_drawn : Fn := runFn 3 s__law_drawn
abbrev b__law_tree_3 : MS := msSeq (msSet 7 (mCall f__law_drawn (maCons (mVar 0) (maCons (mBin opAdd (mC (.int 50)) (mVar 5)) (maNil)))))
  (msSeq (msSet 10 (mOp opTuple (maCons (mOp opSorted (maCons (mLst (maCons (mBin opIx (mVar 2) (mBin opMod (mBin opFdiv (mVar 7) (mC (.int 8))) (mOp opLen (maCons (mVar 2) (maNil))))) (maCons (mBin opIx (mVar 2) (mBin opMod (mBin opFdiv (mVar 7) (mC (.int 64))) (mOp opLen (maCons (mVar 2) (maNil))))) (maNil)))) (maNil))) (maNil))))
  (msIf (mtAnd (mtVal (mBin opNe (mBin opIx (mVar 10) (mC (.int 0))) (mBin opIx (mVar 10) (mC (.int 1))))) (mtVal (mBin opNotIn (mVar 10) (mVar 4)))) (msMut isLst 4 mmAppend (maCons (mVar 10) maNil)) (msNil)))
abbrev b__law_tree_2 : MS := msSeq (msSet 11 (mCall f__law_drawn (maCons (mVar 7) (maCons (mBin opAdd (mC (.int 20)) (mVar 9)) (maNil)))))
  (msIf (mtVal (mBin opEq (mBin opMod (mVar 11) (mBin opIx (mLst (maCons (mC (.int 2)) (maCons (mC (.int 3)) (maCons (mC (.int 5)) (maNil))))) (mBin opMod (mBin opFdiv (mVar 0) (mC (.int 8))) (mC (.int 3))))) (mC (.int 0)))) (msMut isLst 8 mmAppend (maCons (mTup (maCons (mBin opIx (mVar 2) (mVar 9)) (maCons (mBin opAdd (mC (.int 1)) (mBin opMod (mBin opFdiv (mVar 11) (mC (.int 64))) (mBin opIx (mBin opIx (mVar 3) (mVar 9)) (mC (.int 1))))) (maNil)))) maNil)) (msNil))
abbrev b__law_tree_1 : MS := msSeq (msSet 7 (mCall f__law_drawn (maCons (mVar 0) (maCons (mVar 5) (maNil)))))
  (msSeq (msSet 8 (mLst (maNil)))
  (msSeq (msFor [9, 11] (miOf rangeOf (maCons (mVar 5) (maNil))) (gSet 9)
  (b__law_tree_2))
  (msSeq (msIf (mtVal (mBin opEq (mBin opMod (mBin opFdiv (mVar 7) (mC (.int 8))) (mC (.int 2))) (mC (.int 0)))) (msSet 8 (mUn opRev (mVar 8))) (msNil))
  (msMut isLst 3 mmAppend (maCons (mTup (maCons (mVar 6) (maCons (mBin opAdd (mC (.int 1)) (mBin opMod (mBin opFdiv (mVar 7) (mC (.int 16))) (mC (.int 3)))) (maCons (mBin opAdd (mC (.int 1)) (mBin opMod (mBin opFdiv (mVar 7) (mC (.int 64))) (mC (.int 9)))) (maCons (mOp opTuple (maCons (mVar 8) (maNil))) (maNil)))))) maNil)))))
def s__law_tree : MS := msSeq (msSet 2 (mCut (mLst (maCons (mC (.str "b")) (maCons (mC (.str "axe")) (maCons (mC (.str "c")) (maCons (mC (.str "zap")) (maCons (mC (.str "dd")) (maCons (mC (.str "e")) (maNil)))))))) mpNone (mpSome (mBin opAdd (mC (.int 1)) (mBin opMod (mVar 0) (mVar 1))))))
  (msSeq (msSet 3 (mLst (maNil)))
  (msSeq (msFor [5, 6, 7, 8, 9, 11] (miOf enumOf (maCons (mVar 2) (maNil))) (gTups [5, 6])
  (b__law_tree_1))
  (msSeq (msIf (mtVal (mBin opEq (mBin opMod (mBin opFdiv (mVar 0) (mC (.int 32))) (mC (.int 2))) (mC (.int 0)))) (msSet 3 (mUn opRev (mVar 3))) (msNil))
  (msSeq (msSet 4 (mLst (maNil)))
  (msSeq (msFor [5, 7, 10] (miOf rangeOf (maCons (mIf (mtVal (mBin opGt (mOp opLen (maCons (mVar 2) (maNil))) (mC (.int 2)))) (mBin opMod (mBin opFdiv (mVar 0) (mC (.int 64))) (mC (.int 3))) (mC (.int 0))) (maNil))) (gSet 5)
  (b__law_tree_3))
  (msRet (mTup (maCons (mOp opTuple (maCons (mVar 3) (maNil))) (maCons (mOp opTuple (maCons (mVar 4) (maNil))) (maNil))))))))))
def f__law_tree : Fn := runFn 12 s__law_tree
def s__law_names : MS := msRet (mLc [1] (miSeq (mBin opIx (mVar 0) (mC (.int 0)))) (gSet 1) (mtYes) (mBin opIx (mVar 1) (mC (.int 0))))
def f__law_names : Fn := runFn 2 s__law_names
def xs9 : List Str := ["BadTree", "BadBuild", "BadName", "BadNumber", "Most", "Wants", "Locked", "Points", "BadText"]
def s__law_word (c : Str) : MS := msSeq (msSet 1 (mLst (maCons (mIsE 0 (decide (c = "BadBuild"))) (maCons (mIsE 0 (decide (c = "BadName"))) (maCons (mIsE 0 (decide (c = "BadNumber"))) (maCons (mIsE 0 (decide (c = "BadText"))) (maNil)))))))
  (msSeq (msSet 1 (mBin opAdd (mVar 1) (mLst (maCons (mIsE 0 (decide (c = "BadTree"))) (maCons (mIsE 0 (decide (c = "Locked"))) (maCons (mIsE 0 (decide (c = "Most"))) (maCons (mIsE 0 (decide (c = "Points"))) (maNil))))))))
  (msSeq (msSet 1 (mBin opAdd (mVar 1) (mLst (maCons (mIsE 0 (decide (c = "Wants"))) (maNil)))))
  (msSeq (msIf (mtOr (mtVal (mBin opNe (mOp opSum (maCons (mUn opInts (mVar 1)) (maNil))) (mC (.int 1)))) (mtNot (mtVal (mIsE 0 true)))) (msRet (mC (.str "other"))) (msNil))
  (msSeq (msSet 2 (mLst (maCons (mC (.str "BadBuild")) (maCons (mC (.str "BadName")) (maCons (mC (.str "BadNumber")) (maCons (mC (.str "BadText")) (maCons (mC (.str "BadTree")) (maCons (mC (.str "Locked")) (maCons (mC (.str "Most")) (maCons (mC (.str "Points")) (maCons (mC (.str "Wants")) (maNil))))))))))))
  (msRet (mBin opIx (mVar 2) (mMeth isLst opIndex (mVar 1) (maCons (mC (.bl true)) (maNil)))))))))
def s__law_told : MS := msTold xs9 0 1
def f__law_told : Fn := runFn 2 s__law_told
def s__law_all : MS := msRet (mLcThk 1 0 f__law_told)
def f__law_all : Fn := runFn 2 s__law_all
abbrev b__law_rows_1 (rec : Fn) : MS := msMut isLst 4 mmExtend (maCons (mLc [6] (miSeq (mCall rec (maCons (mVar 0) (maCons (mVar 5) (maCons (mVar 2) (maCons (mBin opSub (mVar 3) (mC (.int 1))) (maNil))))))) (gSet 6) (mtYes) (mBin opAdd (mLst (maCons (mVar 1) (maNil))) (mVar 6))) maNil)
def s__law_rows (rec : Fn) : MS := msSeq (msIf (mtVal (mBin opEq (mVar 1) (mVar 2))) (msRet (mLst (maCons (mLst (maCons (mVar 1) (maNil))) (maNil)))) (msNil))
  (msSeq (msSet 4 (mLst (maNil)))
  (msSeq (msFor [5] (miSeq (mIf (mtVal (mBin opGt (mVar 3) (mC (.int 0)))) (mBin opIx (mVar 0) (mVar 1)) (mLst (maNil)))) (gSet 5)
  ((b__law_rows_1 rec)))
  (msRet (mVar 4))))
def f__law_rows : Nat → Fn
  | 0 => fun _ => .bad
  | n + 1 => runFn 7 (s__law_rows (f__law_rows n))
abbrev b__law_ups_1 : MS := msIf (mtVal (mBin opLt (mBin opIx (mVar 1) (mVar 3)) (mBin opIx (mVar 4) (mC (.int 1))))) (msMut isLst 2 mmAppend (maCons (mBin opAdd (mBin opAdd (mCut (mVar 1) mpNone (mpSome (mVar 3))) (mTup (maCons (mBin opAdd (mBin opIx (mVar 1) (mVar 3)) (mC (.int 1))) (maNil)))) (mCut (mVar 1) (mpSome (mBin opAdd (mVar 3) (mC (.int 1)))) mpNone)) maNil)) (msNil)
def s__law_ups : MS := msSeq (msSet 2 (mLst (maNil)))
  (msSeq (msFor [3, 4] (miOf enumAny (maCons (mBin opIx (mVar 0) (mC (.int 0))) (maNil))) (gTups [3, 4])
  (b__law_ups_1))
  (msRet (mVar 2)))
def f__law_ups : Fn := runFn 5 s__law_ups
abbrev b__law_wrongs_1 : MS := msIf (mtVal (mBin opGt (mBin opIx (mVar 2) (mVar 4)) (mC (.int 0)))) (msSeq (msSet 3 (mBin opAdd (mVar 3) (mLc [8, 9] (miSeq (mVar 7)) (gTups [8, 9]) (mtVal (mBin opLt (mBin opIx (mVar 2) (mVar 8)) (mVar 9))) (mTup (maCons (mVar 4) (maCons (mVar 8) (maNil)))))))
  (msSet 3 (mBin opAdd (mVar 3) (mLc [10, 8] (miSeq (mBin opIx (mVar 0) (mC (.int 1)))) (gTups [10, 8]) (mtAnd (mtVal (mBin opEq (mVar 10) (mVar 4))) (mtVal (mBin opGt (mBin opIx (mVar 2) (mVar 8)) (mC (.int 0))))) (mTup (maCons (mVar 4) (maCons (mVar 8) (maNil)))))))) (msNil)
def s__law_wrongs : MS := msSeq (msUnp [2, 3] (mTup (maCons (mOp opDictZ (maCons (mCall f__law_names (maCons (mVar 0) (maNil))) (maCons (mVar 1) (maNil)))) (maCons (mLst (maNil)) (maNil)))))
  (msSeq (msFor [4, 5, 6, 7] (miSeq (mBin opIx (mVar 0) (mC (.int 0)))) (gTups [4, 5, 6, 7])
  (b__law_wrongs_1))
  (msRet (mVar 3)))
def f__law_wrongs : Fn := runFn 11 s__law_wrongs
abbrev b__law_build_1 : MS := msSeq (msSet 4 (mLc [5] (miSeq (mCall f__law_ups (maCons (mVar 0) (maCons (mVar 2) (maNil))))) (gSet 5) (mtVal (mBin opEq (mCall f__law_wrongs (maCons (mVar 0) (maCons (mVar 5) (maNil)))) (mLst (maNil)))) (mVar 5)))
  (msSet 2 (mIf (mtVal (mBin opNe (mVar 4) (mLst (maNil)))) (mBin opIx (mVar 4) (mBin opMod (mBin opFdiv (mCall f__law_drawn (maCons (mVar 1) (maCons (mVar 3) (maNil)))) (mC (.int 8))) (mOp opLen (maCons (mVar 4) (maNil))))) (mVar 2)))
def s__law_build : MS := msSeq (msSet 2 (mBin opMul (mTup (maCons (mC (.int 0)) (maNil))) (mOp opLen (maCons (mBin opIx (mVar 0) (mC (.int 0))) (maNil)))))
  (msSeq (msFor [3, 4] (miOf rangeOf (maCons (mBin opMod (mVar 1) (mC (.int 14))) (maNil))) (gSet 3)
  (b__law_build_1))
  (msRet (mVar 2)))
def f__law_build : Fn := runFn 6 s__law_build
def s_are_levels : MS := msSeq (msIf (mtOr (mtNot (mtVal (mUn (fun d => (isTy "tuple" d).map fun k => .dat (.bl k)) (mVar 1)))) (mtVal (mBin opNe (mOp opLen (maCons (mVar 1) (maNil))) (mOp opLen (maCons (mBin opIx (mVar 0) (mC (.int 0))) (maNil)))))) (msRet (mC (.bl false))) (msNil))
  (msRet (mOp opAll (maCons (mLc [2, 3] (miOf zipAny (maCons (mVar 1) (maCons (mBin opIx (mVar 0) (mC (.int 0))) (maNil)))) (gTups [2, 3]) (mtYes) (mCall f_is_count (maCons (mVar 2) (maCons (mC (.int 0)) (maCons (mBin opIx (mVar 3) (mC (.int 1))) (maNil)))))) (maNil))))
def f_are_levels : Fn := runFn 4 s_are_levels
def s_levels_of : MS := msRet (mOp opDictZ (maCons (mCall f_names_of (maCons (mVar 0) (maNil))) (maCons (mVar 1) (maNil))))
def f_levels_of : Fn := runFn 2 s_levels_of
def s_clashes : MS := msRet (mLc [2] (miSeq (mBin opIx (mVar 0) (mC (.int 1)))) (gSet 2) (mtAnd (mtVal (mBin opGt (mBin opIx (mVar 1) (mBin opIx (mVar 2) (mC (.int 0)))) (mC (.int 0)))) (mtVal (mBin opGt (mBin opIx (mVar 1) (mBin opIx (mVar 2) (mC (.int 1)))) (mC (.int 0))))) (mVar 2))
def f_clashes : Fn := runFn 3 s_clashes
def s_lacking : MS := msSeq (msSet 3 (mBin opIx (mLc [3] (miSeq (mBin opIx (mVar 0) (mC (.int 0)))) (gSet 3) (mtVal (mBin opEq (mBin opIx (mVar 3) (mC (.int 0))) (mVar 2))) (mVar 3)) (mC (.int 0))))
  (msRet (mLc [4] (miSeq (mBin opIx (mVar 3) (mC (.int 3)))) (gSet 4) (mtVal (mBin opLt (mBin opIx (mVar 1) (mBin opIx (mVar 4) (mC (.int 0)))) (mBin opIx (mVar 4) (mC (.int 1))))) (mVar 4)))
def f_lacking : Fn := runFn 5 s_lacking
def s_holds : MS := msSeq (msSet 2 (mCall f_levels_of (maCons (mVar 0) (maCons (mVar 1) (maNil)))))
  (msSeq (msIf (mtVal (mBin opNe (mCall f_clashes (maCons (mVar 0) (maCons (mVar 2) (maNil)))) (mLst (maNil)))) (msRet (mC (.bl false))) (msNil))
  (msRet (mOp opAll (maCons (mLc [3] (miSeq (mCall f_names_of (maCons (mVar 0) (maNil)))) (gSet 3) (mtYes) (mOr (mBin opEq (mBin opIx (mVar 2) (mVar 3)) (mC (.int 0))) (mBin opEq (mCall f_lacking (maCons (mVar 0) (maCons (mVar 2) (maCons (mVar 3) (maNil))))) (mLst (maNil))))) (maNil)))))
def f_holds : Fn := runFn 4 s_holds
def s_is_build : MS := msSeq (msExpr (mCall f_need_tree (maCons (mVar 0) (maNil))))
  (msRet (mAnd (mCall f_are_levels (maCons (mVar 0) (maCons (mVar 1) (maNil)))) (mCall f_holds (maCons (mVar 0) (maCons (mVar 1) (maNil))))))
def f_is_build : Fn := runFn 2 s_is_build
def s_need_build : MS := msIf (mtNot (mtVal (mCall f_is_build (maCons (mVar 0) (maCons (mVar 1) (maNil)))))) (msRaise "BadBuild") (msNil)
def f_need_build : Fn := runFn 2 s_need_build
def s_joined : MS := msSeq (msExpr (mCall f_need_build (maCons (mVar 0) (maCons (mVar 1) (maNil)))))
  (msSeq (msExpr (mCall f_need_build (maCons (mVar 0) (maCons (mVar 2) (maNil)))))
  (msSeq (msSet 3 (mOp opTuple (maCons (mLc [4] (miOf zipAny (maCons (mVar 1) (maCons (mVar 2) (maNil)))) (gSet 4) (mtYes) (mOp opMaxT (maCons (mVar 4) (maNil)))) (maNil))))
  (msRet (mIf (mtVal (mCall f_holds (maCons (mVar 0) (maCons (mVar 3) (maNil))))) (mVar 3) (mC .non)))))
def f_joined : Fn := runFn 5 s_joined
def s_met : MS := msSeq (msExpr (mCall f_need_build (maCons (mVar 0) (maCons (mVar 1) (maNil)))))
  (msSeq (msExpr (mCall f_need_build (maCons (mVar 0) (maCons (mVar 2) (maNil)))))
  (msRet (mOp opTuple (maCons (mLc [3] (miOf zipAny (maCons (mVar 1) (maCons (mVar 2) (maNil)))) (gSet 3) (mtYes) (mOp opMinT (maCons (mVar 3) (maNil)))) (maNil)))))
def f_met : Fn := runFn 4 s_met
def s__law_three_right : MS := msSeq (msPar 5 6 (mTup (maCons (mBin opIx (mVar 0) (mC (.int 0))) (maCons (mTup (maNil)) (maNil)))) (mCall f_met (maCons (mVar 0) (maCons (mVar 1) (maCons (mVar 2) (maNil))))))
  (msSeq (msIf (mtOr (mtVal (mBin opNe (mVar 6) (mCall f_met (maCons (mVar 0) (maCons (mVar 2) (maCons (mVar 1) (maNil))))))) (mtOr (mtVal (mBin opNe (mCall f_met (maCons (mVar 0) (maCons (mVar 1) (maCons (mVar 1) (maNil))))) (mVar 1))) (mtVal (mBin opNe (mCall f_joined (maCons (mVar 0) (maCons (mVar 1) (maCons (mVar 1) (maNil))))) (mVar 1))))) (msRet (mC (.bl false))) (msNil))
  (msSeq (msIf (mtVal (mBin opNe (mCall f_met (maCons (mVar 0) (maCons (mVar 6) (maCons (mVar 3) (maNil))))) (mCall f_met (maCons (mVar 0) (maCons (mVar 1) (maCons (mCall f_met (maCons (mVar 0) (maCons (mVar 2) (maCons (mVar 3) (maNil))))) (maNil))))))) (msRet (mC (.bl false))) (msNil))
  (msSeq (msSet 4 (mCall f_joined (maCons (mVar 5) (maCons (mVar 1) (maCons (mVar 2) (maNil))))))
  (msSeq (msIf (mtOr (mtVal (mBin opNe (mVar 4) (mCall f_joined (maCons (mVar 5) (maCons (mVar 2) (maCons (mVar 1) (maNil))))))) (mtOr (mtVal (mBin opNe (mCall f_met (maCons (mVar 5) (maCons (mVar 1) (maCons (mVar 4) (maNil))))) (mVar 1))) (mtVal (mBin opNe (mCall f_joined (maCons (mVar 5) (maCons (mVar 1) (maCons (mVar 6) (maNil))))) (mVar 1))))) (msRet (mC (.bl false))) (msNil))
  (msSeq (msIf (mtVal (mBin opNe (mCall f_joined (maCons (mVar 5) (maCons (mVar 4) (maCons (mVar 3) (maNil))))) (mCall f_joined (maCons (mVar 5) (maCons (mVar 1) (maCons (mCall f_joined (maCons (mVar 5) (maCons (mVar 2) (maCons (mVar 3) (maNil))))) (maNil))))))) (msRet (mC (.bl false))) (msNil))
  (msRet (mAnd (mBin opInT (mCall f_joined (maCons (mVar 0) (maCons (mVar 1) (maCons (mVar 2) (maNil))))) (mTup (maCons (mC .non) (maCons (mVar 4) (maNil))))) (mBin opIsNot (mVar 4) (mC .non)))))))))
def f__law_three_right : Fn := runFn 7 s__law_three_right
abbrev b_need_goals_1 : MS := msSeq (msIf (mtOr (mtNot (mtVal (mUn (fun d => (isTy "tuple" d).map fun k => .dat (.bl k)) (mVar 2)))) (mtVal (mBin opNe (mOp opLen (maCons (mVar 2) (maNil))) (mC (.int 2))))) (msRaise "BadNumber") (msNil))
  (msSeq (msExpr (mCall f_need_name (maCons (mVar 0) (maCons (mBin opIx (mVar 2) (mC (.int 0))) (maNil)))))
  (msSeq (msSet 3 (mBin opIx (mLc [4] (miSeq (mBin opIx (mVar 0) (mC (.int 0)))) (gSet 4) (mtVal (mBin opEq (mBin opIx (mVar 4) (mC (.int 0))) (mBin opIx (mVar 2) (mC (.int 0))))) (mBin opIx (mVar 4) (mC (.int 1)))) (mC (.int 0))))
  (msIf (mtNot (mtVal (mCall f_is_count (maCons (mBin opIx (mVar 2) (mC (.int 1))) (maCons (mC (.int 1)) (maCons (mVar 3) (maNil))))))) (msRaise "BadNumber") (msNil))))
def s_need_goals : MS := msSeq (msIf (mtNot (mtVal (mUn (fun d => (isTy "list" d).map fun k => .dat (.bl k)) (mVar 1)))) (msRaise "BadNumber") (msNil))
  (msSeq (msFor [2, 3] (miSeq (mVar 1)) (gSet 2)
  (b_need_goals_1))
  (msIf (mtVal (mBin opNe (mUn opLenSet (mLc [2] (miSeq (mVar 1)) (gSet 2) (mtYes) (mBin opIx (mVar 2) (mC (.int 0))))) (mOp opLen (maCons (mVar 1) (maNil))))) (msRaise "BadNumber") (msNil)))
def f_need_goals : Fn := runFn 5 s_need_goals
abbrev b_grown_3 : MS := msIf (mtAnd (mtVal (mBin opGt (mBin opIx (mVar 2) (mVar 4)) (mC (.int 0)))) (mtVal (mBin opLt (mBin opIx (mVar 2) (mVar 8)) (mVar 9)))) (msSeq (msMut isAny 2 mmPut (maCons (mVar 9) (maCons (mVar 8) maNil)))
  (msSet 3 (mC (.bl true)))) (msNil)
abbrev b_grown_2 : MS := msFor [8, 9] (miSeq (mVar 7)) (gTups [8, 9])
  (b_grown_3)
abbrev b_grown_1 : MS := msSeq (msSet 3 (mC (.bl false)))
  (msFor [4, 5, 6, 7, 8, 9] (miSeq (mBin opIx (mVar 0) (mC (.int 0)))) (gTups [4, 5, 6, 7])
  (b_grown_2))
def s_grown : MS := msSeq (msSet 2 (mOp opDictA (maCons (mVar 1) (maNil))))
  (msSeq (msSet 3 (mC (.bl true)))
  (msSeq (msWhile [4, 5, 6, 7, 8, 9] 40 (mtVal (mVar 3))
  (b_grown_1))
  (msRet (mVar 2))))
def f_grown : Fn := runFn 10 s_grown
abbrev b_goal_levels_1 : MS := msMut isAny 2 mmPut (maCons (mVar 4) (maCons (mVar 3) maNil))
def s_goal_levels : MS := msSeq (msSet 2 (mCall f_levels_of (maCons (mVar 0) (maCons (mBin opMul (mTup (maCons (mC (.int 0)) (maNil))) (mOp opLen (maCons (mBin opIx (mVar 0) (mC (.int 0))) (maNil)))) (maNil)))))
  (msSeq (msFor [3, 4] (miSeq (mVar 1)) (gTups [3, 4])
  (b_goal_levels_1))
  (msRet (mCall f_grown (maCons (mVar 0) (maCons (mVar 2) (maNil))))))
def f_goal_levels : Fn := runFn 5 s_goal_levels
def s_least : MS := msSeq (msExpr (mCall f_need_tree (maCons (mVar 0) (maNil))))
  (msSeq (msExpr (mCall f_need_goals (maCons (mVar 0) (maCons (mVar 1) (maNil)))))
  (msSeq (msSet 2 (mCall f_goal_levels (maCons (mVar 0) (maCons (mVar 1) (maNil)))))
  (msSeq (msIf (mtVal (mBin opNe (mCall f_clashes (maCons (mVar 0) (maCons (mVar 2) (maNil)))) (mLst (maNil)))) (msRet (mC .non)) (msNil))
  (msRet (mOp opTuple (maCons (mLc [3] (miSeq (mCall f_names_of (maCons (mVar 0) (maNil)))) (gSet 3) (mtYes) (mBin opIx (mVar 2) (mVar 3))) (maNil)))))))
def f_least : Fn := runFn 4 s_least
def s_cost_of : MS := msRet (mOp opSum (maCons (mLc [2, 3] (miOf zipAny (maCons (mVar 1) (maCons (mBin opIx (mVar 0) (mC (.int 0))) (maNil)))) (gTups [2, 3]) (mtYes) (mBin opMul (mVar 2) (mBin opIx (mVar 3) (mC (.int 2))))) (maNil)))
def f_cost_of : Fn := runFn 4 s_cost_of
def s_price : MS := msSeq (msSet 2 (mCall f_least (maCons (mVar 0) (maCons (mVar 1) (maNil)))))
  (msRet (mIf (mtVal (mBin opIs (mVar 2) (mC .non))) (mC .non) (mCall f_cost_of (maCons (mVar 0) (maCons (mVar 2) (maNil))))))
def f_price : Fn := runFn 3 s_price
def s__law_cost : MS := msRet (mOp opSum (maCons (mLc [2, 3] (miOf zipAny (maCons (mVar 1) (maCons (mBin opIx (mVar 0) (mC (.int 0))) (maNil)))) (gTups [2, 3]) (mtYes) (mBin opMul (mVar 2) (mBin opIx (mVar 3) (mC (.int 2))))) (maNil)))
def f__law_cost : Fn := runFn 4 s__law_cost
def s_barred_by : MS := msSeq (msExpr (mCall f_need_tree (maCons (mVar 0) (maNil))))
  (msSeq (msExpr (mCall f_need_goals (maCons (mVar 0) (maCons (mVar 1) (maNil)))))
  (msRet (mCall f_clashes (maCons (mVar 0) (maCons (mCall f_goal_levels (maCons (mVar 0) (maCons (mVar 1) (maNil)))) (maNil))))))
def f_barred_by : Fn := runFn 2 s_barred_by
end SM
end
section
set_option linter.all false
set_option maxRecDepth 100000
set_option maxHeartbeats 4000000
set_option autoImplicit false
namespace LW
open PySem DL SM
def ms_law : List ME := []
abbrev b_law_2 : MS := msSeq (msSet 14 (mLc [17, 18] (miOf zipAny (maCons (mVar 6) (maCons (mVar 7) (maNil)))) (gTups [17, 18]) (mtVal (mBin opGt (mVar 18) (mC (.int 0)))) (mTup (maCons (mVar 17) (maCons (mVar 18) (maNil))))))
  (msIf (mtOr (mtVal (mBin opNe (mCall f_least (maCons (mVar 3) (maCons (mVar 14) (maNil)))) (mVar 7))) (mtOr (mtVal (mBin opNe (mCall f_price (maCons (mVar 3) (maCons (mVar 14) (maNil)))) (mCall f__law_cost (maCons (mVar 3) (maCons (mVar 7) (maNil)))))) (mtVal (mBin opNe (mCall f_barred_by (maCons (mVar 3) (maCons (mVar 14) (maNil)))) (mLst (maNil)))))) (msRet (mC (.bl false))) (msNil))
abbrev b_law_1 : MS := msSeq (msSet 2 (mCall f__law_drawn (maCons (mCall f__law_cell (maCons (mVar 0) (maCons (mVar 1) (maNil)))) (maCons (mVar 1) (maNil)))))
  (msSeq (msSet 3 (mCall f__law_tree (maCons (mBin opFdiv (mVar 2) (mC (.int 64))) (maCons (mC (.int 6)) (maNil)))))
  (msSeq (msSet 4 (mTup (maCons (mBin opIx (mVar 3) (mC (.int 0))) (maCons (mTup (maNil)) (maNil)))))
  (msSeq (msSet 5 (mLc [15] (miOf rangeOf (maCons (mC (.int 3)) (maNil))) (gSet 15) (mtYes) (mCall f__law_build (maCons (mVar 3) (maCons (mCall f__law_drawn (maCons (mVar 2) (maCons (mBin opAdd (mC (.int 30)) (mVar 15)) (maNil)))) (maNil))))))
  (msSeq (msUnpL [11, 12, 13] (mVar 5))
  (msSeq (msIf (mtNot (mtVal (mCall f__law_three_right (maCons (mVar 3) (maCons (mVar 11) (maCons (mVar 12) (maCons (mVar 13) (maNil)))))))) (msRet (mC (.bl false))) (msNil))
  (msSeq (msSet 6 (mCall f__law_names (maCons (mVar 3) (maNil))))
  (msSeq (msFor [7, 14] (miSeq (mVar 5)) (gSet 7)
  (b_law_2))
  (msSeq (msSet 8 (mCut (mLc [17, 18] (miOf zipAny (maCons (mVar 6) (maCons (mVar 11) (maNil)))) (gTups [17, 18]) (mtVal (mBin opGt (mVar 18) (mC (.int 0)))) (mTup (maCons (mVar 17) (maCons (mVar 18) (maNil))))) mpNone (mpSome (mC (.int 2)))))
  (msSeq (msSet 9 (mLc [16] (miSeq (mVar 8)) (gSet 16) (mtYes) (mBin opIx (mVar 16) (mC (.int 0)))))
  (msSeq (msSet 10 (mCut (mLc [17, 18] (miOf zipAny (maCons (mVar 6) (maCons (mVar 12) (maNil)))) (gTups [17, 18]) (mtAnd (mtVal (mBin opGt (mVar 18) (mC (.int 0)))) (mtVal (mBin opNotIn (mVar 17) (mVar 9)))) (mTup (maCons (mVar 17) (maCons (mVar 18) (maNil))))) mpNone (mpSome (mC (.int 2)))))
  (msSeq (msIf (mtVal (mBin opNe (mCall f_least (maCons (mVar 4) (maCons (mBin opAdd (mVar 8) (mVar 10)) (maNil)))) (mCall f_joined (maCons (mVar 4) (maCons (mCall f_least (maCons (mVar 4) (maCons (mVar 8) (maNil)))) (maCons (mCall f_least (maCons (mVar 4) (maCons (mVar 10) (maNil)))) (maNil))))))) (msRet (mC (.bl false))) (msNil))
  (msIf (mtOr (mtVal (mBin opNe (mCall f_least (maCons (mVar 3) (maCons (mLst (maNil)) (maNil)))) (mBin opMul (mTup (maCons (mC (.int 0)) (maNil))) (mOp opLen (maCons (mVar 6) (maNil)))))) (mtVal (mBin opNe (mCall f_price (maCons (mVar 3) (maCons (mLst (maNil)) (maNil)))) (mC (.int 0))))) (msRet (mC (.bl false))) (msNil)))))))))))))
def s_law : MS := msSeq (msFor [1, 2, 3, 4, 5, 6, 7, 8, 9, 10, 11, 12, 13, 14] (miOf rangeOf (maCons (mOp opMax (maCons (mC (.int 1)) (maCons (mOp opMin (maCons (mC (.int 3)) (maCons (mOp opLen (maCons (mVar 0) (maNil))) (maNil)))) (maNil)))) (maNil))) (gSet 1)
  (b_law_1))
  (msRet (mC (.bl true)))
def f_law : Fn := runFn 19 s_law
end LW
end
section
set_option linter.all false
set_option maxRecDepth 100000
set_option maxHeartbeats 4000000
set_option autoImplicit false
namespace LW
open PySem L2 PySem.Spec PyProof.Rows DL LamX L2H HotX
def top (i : Nat) : Stmt := PySem.Challenge.pw_skillwants_k42_whole_goals_together.main.body.getD i (.Pass ⟨0, 0, 0, 0⟩)
def d_is_count : He.DefD := ⟨("is_count", none), "is_count", "is_count", defArgs (top 12), defBody (top 12), defScope (top 12), [], []⟩
def d_is_name : He.DefD := ⟨("is_name", none), "is_name", "is_name", defArgs (top 13), defBody (top 13), defScope (top 13), [], []⟩
def d_is_skill : He.DefD := ⟨("is_skill", none), "is_skill", "is_skill", defArgs (top 14), defBody (top 14), defScope (top 14), [], []⟩
def d_has_no_ring : He.DefD := ⟨("has_no_ring", none), "has_no_ring", "has_no_ring", defArgs (top 15), defBody (top 15), defScope (top 15), [], []⟩
def d_is_tree : He.DefD := ⟨("is_tree", none), "is_tree", "is_tree", defArgs (top 16), defBody (top 16), defScope (top 16), [], []⟩
def d_are_locks : He.DefD := ⟨("are_locks", none), "are_locks", "are_locks", defArgs (top 17), defBody (top 17), defScope (top 17), [], []⟩
def d_need_tree : He.DefD := ⟨("need_tree", none), "need_tree", "need_tree", defArgs (top 18), defBody (top 18), defScope (top 18), [], []⟩
def d_names_of : He.DefD := ⟨("names_of", none), "names_of", "names_of", defArgs (top 19), defBody (top 19), defScope (top 19), [], []⟩
def d_levels_of : He.DefD := ⟨("levels_of", none), "levels_of", "levels_of", defArgs (top 20), defBody (top 20), defScope (top 20), [], []⟩
def d_lacking : He.DefD := ⟨("lacking", none), "lacking", "lacking", defArgs (top 21), defBody (top 21), defScope (top 21), [], []⟩
def d_clashes : He.DefD := ⟨("clashes", none), "clashes", "clashes", defArgs (top 22), defBody (top 22), defScope (top 22), [], []⟩
def d_are_levels : He.DefD := ⟨("are_levels", none), "are_levels", "are_levels", defArgs (top 23), defBody (top 23), defScope (top 23), [], []⟩
def d_holds : He.DefD := ⟨("holds", none), "holds", "holds", defArgs (top 24), defBody (top 24), defScope (top 24), [], []⟩
def d_is_build : He.DefD := ⟨("is_build", none), "is_build", "is_build", defArgs (top 25), defBody (top 25), defScope (top 25), [], []⟩
def d_need_build : He.DefD := ⟨("need_build", none), "need_build", "need_build", defArgs (top 26), defBody (top 26), defScope (top 26), [], []⟩
def d_need_name : He.DefD := ⟨("need_name", none), "need_name", "need_name", defArgs (top 27), defBody (top 27), defScope (top 27), [], []⟩
def d_cost_of : He.DefD := ⟨("cost_of", none), "cost_of", "cost_of", defArgs (top 28), defBody (top 28), defScope (top 28), [], []⟩
def d_need_goals : He.DefD := ⟨("need_goals", none), "need_goals", "need_goals", defArgs (top 30), defBody (top 30), defScope (top 30), [], []⟩
def d_grown : He.DefD := ⟨("grown", none), "grown", "grown", defArgs (top 31), defBody (top 31), defScope (top 31), [], []⟩
def d_goal_levels : He.DefD := ⟨("goal_levels", none), "goal_levels", "goal_levels", defArgs (top 32), defBody (top 32), defScope (top 32), [], []⟩
def d_least : He.DefD := ⟨("least", none), "least", "least", defArgs (top 33), defBody (top 33), defScope (top 33), [], []⟩
def d_price : He.DefD := ⟨("price", none), "price", "price", defArgs (top 34), defBody (top 34), defScope (top 34), [], []⟩
def d_barred_by : He.DefD := ⟨("barred_by", none), "barred_by", "barred_by", defArgs (top 35), defBody (top 35), defScope (top 35), [], []⟩
def d_met : He.DefD := ⟨("met", none), "met", "met", defArgs (top 36), defBody (top 36), defScope (top 36), [], []⟩
def d_joined : He.DefD := ⟨("joined", none), "joined", "joined", defArgs (top 37), defBody (top 37), defScope (top 37), [], []⟩
def d__law_cell : He.DefD := ⟨("_law_cell", none), "_law_cell", "_law_cell", defArgs (top 39), defBody (top 39), defScope (top 39), [], []⟩
def d__law_drawn : He.DefD := ⟨("_law_drawn", none), "_law_drawn", "_law_drawn", defArgs (top 40), defBody (top 40), defScope (top 40), [], []⟩
def d__law_tree : He.DefD := ⟨("_law_tree", none), "_law_tree", "_law_tree", defArgs (top 41), defBody (top 41), defScope (top 41), [], []⟩
def d__law_names : He.DefD := ⟨("_law_names", none), "_law_names", "_law_names", defArgs (top 42), defBody (top 42), defScope (top 42), [], []⟩
def d__law_wrongs : He.DefD := ⟨("_law_wrongs", none), "_law_wrongs", "_law_wrongs", defArgs (top 43), defBody (top 43), defScope (top 43), [], []⟩
def d__law_cost : He.DefD := ⟨("_law_cost", none), "_law_cost", "_law_cost", defArgs (top 44), defBody (top 44), defScope (top 44), [], []⟩
def d__law_build : He.DefD := ⟨("_law_build", none), "_law_build", "_law_build", defArgs (top 45), defBody (top 45), defScope (top 45), [], []⟩
def d__law_ups : He.DefD := ⟨("_law_ups", none), "_law_ups", "_law_ups", defArgs (top 46), defBody (top 46), defScope (top 46), [], []⟩
def d__law_three_right : He.DefD := ⟨("_law_three_right", none), "_law_three_right", "_law_three_right", defArgs (top 47), defBody (top 47), defScope (top 47), [], []⟩
def d_law : He.DefD := ⟨("law", none), "law", "law", defArgs (top 48), defBody (top 48), defScope (top 48), [], []⟩
def fn : List He.DefD := ([d_is_count, d_is_name, d_is_skill, d_has_no_ring, d_is_tree, d_are_locks, d_need_tree, d_names_of, d_levels_of, d_lacking, d_clashes, d_are_levels, d_holds, d_is_build, d_need_build, d_need_name, d_cost_of, d_need_goals, d_grown, d_goal_levels, d_least, d_price, d_barred_by, d_met, d_joined, d__law_cell, d__law_drawn, d__law_tree, d__law_names, d__law_wrongs] : List He.DefD) ++ ([d__law_cost, d__law_build, d__law_ups, d__law_three_right, d_law] : List He.DefD)
def fa : List He.Fa := ([.glo "SkillError", .glo "BadTree", .glo "BadBuild", .glo "BadName", .glo "BadNumber", .glo "is_count", .glo "is_name", .glo "is_skill", .glo "has_no_ring", .glo "is_tree", .glo "are_locks", .glo "need_tree", .glo "names_of", .glo "levels_of", .glo "lacking", .glo "clashes", .glo "are_levels", .glo "holds", .glo "is_build", .glo "need_build", .glo "need_name", .glo "cost_of", .glo "need_goals", .glo "grown", .glo "goal_levels", .glo "least", .glo "price", .glo "barred_by", .glo "met", .glo "joined"] : List He.Fa) ++ ([.glo "_law_cell", .glo "_law_drawn", .glo "_law_tree", .glo "_law_names", .glo "_law_wrongs", .glo "_law_cost", .glo "_law_build", .glo "_law_ups", .glo "_law_three_right", .glo "law", .free "ValueError", .free "all", .free "bool", .free "dict", .free "enumerate", .free "int", .free "isinstance", .free "len", .free "list", .free "max", .free "min", .free "range", .free "set", .free "sorted", .free "str", .free "sum", .free "tuple", .free "zip", .str "SMALL" "abcdefghijklmnopqrstuvwxyz", .int "MOST_SKILLS" 6] : List He.Fa) ++ ([.int "MOST_LEVEL" 3, .int "MOST_COST" 9, .int "MOST_NAME" 6, .exc "BadTree", .exc "BadBuild", .exc "BadName", .exc "BadNumber"] : List He.Fa)
open SM
def xsl : List Str := ["BadTree", "BadBuild", "BadName", "BadNumber"]
theorem sc__law_drawn : FnScope ["_law_cell_here", "_law_k", "_law_more"] ["_law_cell_here", "_law_k"] (defScope (top 40)) := ⟨rfl, rfl, rfl, by decide +kernel, rfl, by decide +kernel, by decide +kernel⟩
theorem o__law_drawn {P : Program} {w : World} {base : Heap} {G : Gx} {mg : Str → Option Value} (V : HF fa fn G mg) : CallF P w mg base G 1 "_law_drawn" 2 f__law_drawn :=
  have S := sc__law_drawn
  callF_mk (st := top 40) (N := ["_law_cell_here", "_law_k", "_law_more"]) (ps := ["_law_cell_here", "_law_k"]) (m := s__law_drawn) V 26 31 S (by decide) (fun _ _ _ _ _ _ us hl => match us, hl with | [_, _], _ => rfl) fun f cdv A outer s H E hr =>
  dss_cons (ds_set S.nd rfl (by first | exact Or.inl rfl | exact Or.inr rfl) (de_op c_mod (de_op (c_add rfl) (de_op (c_mul rfl) (dv 0) (de_int)) (de_op (c_mul rfl) (de_op (c_add rfl) (dv 1) (de_int)) (de_int))) (de_int)))
  (dss_cons (ds_set S.nd rfl (by first | exact Or.inl rfl | exact Or.inr rfl) (de_op c_mod (de_op (c_mul rfl) (dv 2) (dv 2)) (de_int)))
  (dss_cons (ds_set S.nd rfl (by first | exact Or.inl rfl | exact Or.inr rfl) (de_op (c_mul rfl) (de_op (c_mul rfl) (de_op (c_add rfl) (de_op c_mod (dv 2) (de_int)) (de_int)) (de_op (c_add rfl) (de_op c_fdiv (dv 2) (de_int)) (de_int))) (dv 2)))
  (dss_one (ds_ret (de_op c_mod (dv 2) (de_int))))))
theorem sc__law_tree : FnScope ["_law_more", "_law_most", "_law_names_here", "_law_skills", "_law_locks", "_law_j", "_law_name", "_law_here", "_law_wants", "_law_n", "_law_pair", "_law_one"] ["_law_more", "_law_most"] (defScope (top 41)) := ⟨rfl, rfl, rfl, by decide +kernel, rfl, by decide +kernel, by decide +kernel⟩
theorem o__law_tree {P : Program} {w : World} {base : Heap} {G : Gx} {mg : Str → Option Value} (V : HF fa fn G mg) : CallF P w mg base G 2 "_law_tree" 2 f__law_tree :=
  have S := sc__law_tree
  callF_mk (st := top 41) (N := ["_law_more", "_law_most", "_law_names_here", "_law_skills", "_law_locks", "_law_j", "_law_name", "_law_here", "_law_wants", "_law_n", "_law_pair", "_law_one"]) (ps := ["_law_more", "_law_most"]) (m := s__law_tree) V 27 32 S (by decide) (fun _ _ _ _ _ _ us hl => match us, hl with | [_, _], _ => rfl) fun f cdv A outer s H E hr =>
  dss_cons (ds_set S.nd rfl (by first | exact Or.inl rfl | exact Or.inr rfl) (de_cut rfl (de_lst (da_cons (de_str) (da_cons (de_str) (da_cons (de_str) (da_cons (de_str) (da_cons (de_str) (da_cons (de_str) (da_nil))))))) (fixed_cons (fixed_cons (fixed_cons (fixed_cons (fixed_cons (fixed_cons fixed_nil))))))) dp_none (dp_some (de_op (c_add rfl) (de_int) (de_op c_mod (dv 0) (dv 1))))))
  (dss_cons (ds_set S.nd rfl (by first | exact Or.inl rfl | exact Or.inr rfl) (de_lst (da_nil) fixed_nil))
  (dss_cons (ds_for [5, 6, 7, 8, 9, 11] body_pass rfl (di_enum rfl rfl (V.free 44) (da_cons (dv 2) (da_nil)) (fixed_cons fixed_nil)) (dg_tup rfl rfl (.cons (pg_name S.nd rfl (by first | exact Or.inl rfl | exact Or.inr rfl)) (.cons (pg_name S.nd rfl (by first | exact Or.inl rfl | exact Or.inr rfl)) (.nil))))
  (dss_cons (ds_set S.nd rfl (by first | exact Or.inl rfl | exact Or.inr rfl) (de_call rfl ((o__law_drawn V).mono (by decide)) hr takes_cx rfl (da_cons (dv 0) (da_cons (dv 5) (da_nil))) (len_cons (len_cons len_nil)) (fixed_cons (fixed_cons fixed_nil))))
  (dss_cons (ds_set S.nd rfl (by first | exact Or.inl rfl | exact Or.inr rfl) (de_lst (da_nil) fixed_nil))
  (dss_cons (ds_for [9, 11] body_pass rfl (di_range rfl (V.free 51) (da_cons (dv 5) (da_nil)) (fixed_cons fixed_nil)) (dg_name S.nd rfl (by first | exact Or.inl rfl | exact Or.inr rfl))
  (dss_cons (ds_set S.nd rfl (by first | exact Or.inl rfl | exact Or.inr rfl) (de_call rfl ((o__law_drawn V).mono (by decide)) hr takes_cx rfl (da_cons (dv 7) (da_cons (de_op (c_add rfl) (de_int) (dv 9)) (da_nil))) (len_cons (len_cons len_nil)) (fixed_cons (fixed_cons fixed_nil))))
  (dss_one (ds_if (dt_cmp (c_eq rfl (hu64 hr)) (de_op c_mod (dv 11) (de_ix rfl (hu1 hr) (de_lst (da_cons (de_int) (da_cons (de_int) (da_cons (de_int) (da_nil)))) (fixed_cons (fixed_cons (fixed_cons fixed_nil)))) (de_op c_mod (de_op c_fdiv (dv 0) (de_int)) (de_int)) (by intro _ _; rfl))) (de_int) rfl) (dss_one (ds_append rfl (pv 8) (de_tup (da_cons (de_ix rfl (hu1 hr) (dv 2) (dv 9) (by intro _ _; rfl)) (da_cons (de_op (c_add rfl) (de_int) (de_op c_mod (de_op c_fdiv (dv 11) (de_int)) (de_ix rfl (hu1 hr) (de_ix rfl (hu1 hr) (dv 3) (dv 9) (by intro _ _; rfl)) (de_int) (by intro _ _; rfl)))) (da_nil))) (fixed_cons (fixed_cons fixed_nil))))) (dss_nil)))))
  (dss_cons (ds_if (dt_cmp (c_eq rfl (hu64 hr)) (de_op c_mod (de_op c_fdiv (dv 7) (de_int)) (de_int)) (de_int) rfl) (dss_one (ds_set S.nd rfl (by first | exact Or.inl rfl | exact Or.inr rfl) (de_rev rfl (dv 8)))) (dss_nil))
  (dss_one (ds_append rfl (pv 3) (de_tup (da_cons (dv 6) (da_cons (de_op (c_add rfl) (de_int) (de_op c_mod (de_op c_fdiv (dv 7) (de_int)) (de_int))) (da_cons (de_op (c_add rfl) (de_int) (de_op c_mod (de_op c_fdiv (dv 7) (de_int)) (de_int))) (da_cons (de_kT (k_tuple rfl) rfl (V.free 56) boot_tuple (da_cons (dv 8) (da_nil))) (da_nil))))) (fixed_cons (fixed_cons (fixed_cons (fixed_cons fixed_nil))))))))))))
  (dss_cons (ds_if (dt_cmp (c_eq rfl (hu64 hr)) (de_op c_mod (de_op c_fdiv (dv 0) (de_int)) (de_int)) (de_int) rfl) (dss_one (ds_set S.nd rfl (by first | exact Or.inl rfl | exact Or.inr rfl) (de_rev rfl (dv 3)))) (dss_nil))
  (dss_cons (ds_set S.nd rfl (by first | exact Or.inl rfl | exact Or.inr rfl) (de_lst (da_nil) fixed_nil))
  (dss_cons (ds_for [5, 7, 10] body_pass rfl (di_range rfl (V.free 51) (da_cons (de_if (dt_cmp o_gt (de_kB (k_len rfl) rfl (V.free 47) boot_len (da_cons (dv 2) (da_nil))) (de_int) rfl) (de_op c_mod (de_op c_fdiv (dv 0) (de_int)) (de_int)) (de_int)) (da_nil)) (fixed_cons fixed_nil)) (dg_name S.nd rfl (by first | exact Or.inl rfl | exact Or.inr rfl))
  (dss_cons (ds_set S.nd rfl (by first | exact Or.inl rfl | exact Or.inr rfl) (de_call rfl ((o__law_drawn V).mono (by decide)) hr takes_cx rfl (da_cons (dv 0) (da_cons (de_op (c_add rfl) (de_int) (dv 5)) (da_nil))) (len_cons (len_cons len_nil)) (fixed_cons (fixed_cons fixed_nil))))
  (dss_cons (ds_set S.nd rfl (by first | exact Or.inl rfl | exact Or.inr rfl) (de_kT (k_tuple rfl) rfl (V.free 56) boot_tuple (da_cons (de_kB (k_sorted rfl) rfl (V.free 53) boot_sorted (da_cons (de_lst (da_cons (de_ix rfl (hu1 hr) (dv 2) (de_op c_mod (de_op c_fdiv (dv 7) (de_int)) (de_kB (k_len rfl) rfl (V.free 47) boot_len (da_cons (dv 2) (da_nil)))) (by intro _ _; rfl)) (da_cons (de_ix rfl (hu1 hr) (dv 2) (de_op c_mod (de_op c_fdiv (dv 7) (de_int)) (de_kB (k_len rfl) rfl (V.free 47) boot_len (da_cons (dv 2) (da_nil)))) (by intro _ _; rfl)) (da_nil))) (fixed_cons (fixed_cons fixed_nil))) (da_nil))) (da_nil))))
  (dss_one (ds_if (dt_w (dw_and (dt_cmp (c_ne rfl (hu64 hr)) (de_ix rfl (hu1 hr) (dv 10) (de_int) (by intro _ _; rfl)) (de_ix rfl (hu1 hr) (dv 10) (de_int) (by intro _ _; rfl)) rfl) (dw_and1 (dt_cmp (c_notIn rfl (hu65 hr)) (dv 10) (dv 4) rfl)))) (dss_one (ds_append rfl (pv 4) (dv 10))) (dss_nil))))))
  (dss_one (ds_ret (de_tup (da_cons (de_kT (k_tuple rfl) rfl (V.free 56) boot_tuple (da_cons (dv 3) (da_nil))) (da_cons (de_kT (k_tuple rfl) rfl (V.free 56) boot_tuple (da_cons (dv 4) (da_nil))) (da_nil))) (fixed_cons (fixed_cons fixed_nil))))))))))
theorem sc__law_names : FnScope ["_law_tree_here", "_law_one"] ["_law_tree_here"] (defScope (top 42)) := ⟨rfl, rfl, rfl, by decide +kernel, rfl, by decide +kernel, by decide +kernel⟩
theorem o__law_names {P : Program} {w : World} {base : Heap} {G : Gx} {mg : Str → Option Value} (V : HF fa fn G mg) : CallF P w mg base G 1 "_law_names" 1 f__law_names :=
  have S := sc__law_names
  callF_mk (st := top 42) (N := ["_law_tree_here", "_law_one"]) (ps := ["_law_tree_here"]) (m := s__law_names) V 28 33 S (by decide) (fun _ _ _ _ _ _ us hl => match us, hl with | [_], _ => rfl) fun f cdv A outer s H E hr =>
  dss_one (ds_ret (de_lc rfl S.nd (own := [("_law_one", 1)]) (di_seq rfl (de_ix rfl (hu1 hr) (dv 0) (de_int) (by intro _ _; rfl))) (blkOk_by (by kernel_rfl)) (fun _ _ _ _ _ => dgo_name S.nd rfl (by first | exact Or.inl rfl | exact Or.inr rfl)) (fun _ _ _ _ _ => dts_nil) (fun _ _ _ _ _ => de_ix rfl (hu1 hr) (dv 1) (de_int) (by intro _ _; rfl))))
theorem sc__law_cell : FnScope ["_law_script", "_law_k"] ["_law_script", "_law_k"] (defScope (top 39)) := ⟨rfl, rfl, rfl, by decide +kernel, rfl, by decide +kernel, by decide +kernel⟩
theorem o__law_cell {P : Program} {w : World} {base : Heap} {G : Gx} {mg : Str → Option Value} (V : HF fa fn G mg) : CallF P w mg base G 1 "_law_cell" 2 f__law_cell :=
  have S := sc__law_cell
  callF_mk (st := top 39) (N := ["_law_script", "_law_k"]) (ps := ["_law_script", "_law_k"]) (m := s__law_cell) V 25 30 S (by decide) (fun _ _ _ _ _ _ us hl => match us, hl with | [_, _], _ => rfl) fun f cdv A outer s H E hr =>
  dss_cons (ds_if (dt_cmp (c_eq rfl (hu64 hr)) (dv 0) (de_lst (da_nil) fixed_nil) rfl) (dss_one (ds_ret (de_op (c_mul rfl) (dv 1) (de_int)))) (dss_nil))
  (dss_one (ds_ret (de_op (c_add rfl) (de_ix rfl (hu1 hr) (dv 0) (de_op c_mod (dv 1) (de_kB (k_len rfl) rfl (V.free 47) boot_len (da_cons (dv 0) (da_nil)))) (by intro _ _; rfl)) (de_op (c_mul rfl) (de_op c_fdiv (dv 1) (de_kB (k_len rfl) rfl (V.free 47) boot_len (da_cons (dv 0) (da_nil)))) (de_int)))))
theorem sc__law_ups : FnScope ["_law_tree_here", "_law_row", "_law_found", "_law_spot", "_law_one"] ["_law_tree_here", "_law_row"] (defScope (top 46)) := ⟨rfl, rfl, rfl, by decide +kernel, rfl, by decide +kernel, by decide +kernel⟩
theorem o__law_ups {P : Program} {w : World} {base : Heap} {G : Gx} {mg : Str → Option Value} (V : HF fa fn G mg) : CallF P w mg base G 1 "_law_ups" 2 f__law_ups :=
  have S := sc__law_ups
  callF_mk (st := top 46) (N := ["_law_tree_here", "_law_row", "_law_found", "_law_spot", "_law_one"]) (ps := ["_law_tree_here", "_law_row"]) (m := s__law_ups) V 32 37 S (by decide) (fun _ _ _ _ _ _ us hl => match us, hl with | [_, _], _ => rfl) fun f cdv A outer s H E hr =>
  dss_cons (ds_set S.nd rfl (by first | exact Or.inl rfl | exact Or.inr rfl) (de_lst (da_nil) fixed_nil))
  (dss_cons (ds_for [3, 4] body_pass rfl (di_enumB rfl rfl (V.free 44) (da_cons (de_ix rfl (hu1 hr) (dv 0) (de_int) (by intro _ _; rfl)) (da_nil)) (fixed_cons fixed_nil)) (dg_tup rfl rfl (.cons (pg_name S.nd rfl (by first | exact Or.inl rfl | exact Or.inr rfl)) (.cons (pg_name S.nd rfl (by first | exact Or.inl rfl | exact Or.inr rfl)) (.nil))))
  (dss_one (ds_if (dt_cmp o_lt (de_ix rfl (hu1 hr) (dv 1) (dv 3) (by intro _ _; rfl)) (de_ix rfl (hu1 hr) (dv 4) (de_int) (by intro _ _; rfl)) rfl) (dss_one (ds_append rfl (pv 2) (de_op (c_add rfl) (de_op (c_add rfl) (de_cut rfl (dv 1) dp_none (dp_some (dv 3))) (de_tup (da_cons (de_op (c_add rfl) (de_ix rfl (hu1 hr) (dv 1) (dv 3) (by intro _ _; rfl)) (de_int)) (da_nil)) (fixed_cons fixed_nil))) (de_cut rfl (dv 1) (dp_some (de_op (c_add rfl) (dv 3) (de_int))) dp_none)))) (dss_nil))))
  (dss_one (ds_ret (dv 2))))
theorem sc__law_wrongs : FnScope ["_law_tree_here", "_law_row", "_law_levels", "_law_found", "_law_name", "_law_most", "_law_price_here", "_law_wants", "_law_other", "_law_level", "_law_one"] ["_law_tree_here", "_law_row"] (defScope (top 43)) := ⟨rfl, rfl, rfl, by decide +kernel, rfl, by decide +kernel, by decide +kernel⟩
theorem o__law_wrongs {P : Program} {w : World} {base : Heap} {G : Gx} {mg : Str → Option Value} (V : HF fa fn G mg) : CallF P w mg base G 2 "_law_wrongs" 2 f__law_wrongs :=
  have S := sc__law_wrongs
  callF_mk (st := top 43) (N := ["_law_tree_here", "_law_row", "_law_levels", "_law_found", "_law_name", "_law_most", "_law_price_here", "_law_wants", "_law_other", "_law_level", "_law_one"]) (ps := ["_law_tree_here", "_law_row"]) (m := s__law_wrongs) V 29 34 S (by decide) (fun _ _ _ _ _ _ us hl => match us, hl with | [_, _], _ => rfl) fun f cdv A outer s H E hr =>
  dss_cons (ds_unp rfl rfl (.cons (pg_name S.nd rfl (by first | exact Or.inl rfl | exact Or.inr rfl)) (.cons (pg_name S.nd rfl (by first | exact Or.inl rfl | exact Or.inr rfl)) (.nil))) (de_tup (da_cons (de_dictZip rfl rfl rfl (V.free 43) rfl (V.free 57) (da_cons (de_call rfl ((o__law_names V).mono (by decide)) hr takes_cx rfl (da_cons (dv 0) (da_nil)) (len_cons len_nil) (fixed_cons fixed_nil)) (da_cons (dv 1) (da_nil)))) (da_cons (de_lst (da_nil) fixed_nil) (da_nil))) (fixed_cons (fixed_cons fixed_nil))))
  (dss_cons (ds_for [4, 5, 6, 7] body_pass rfl (di_seq rfl (de_ix rfl (hu1 hr) (dv 0) (de_int) (by intro _ _; rfl))) (dg_tup rfl rfl (.cons (pg_name S.nd rfl (by first | exact Or.inl rfl | exact Or.inr rfl)) (.cons (pg_name S.nd rfl (by first | exact Or.inl rfl | exact Or.inr rfl)) (.cons (pg_name S.nd rfl (by first | exact Or.inl rfl | exact Or.inr rfl)) (.cons (pg_name S.nd rfl (by first | exact Or.inl rfl | exact Or.inr rfl)) (.nil))))))
  (dss_one (ds_if (dt_cmp o_gt (de_ix rfl (hu1 hr) (dv 2) (dv 4) (by intro _ _; rfl)) (de_int) rfl) (dss_cons (ds_set S.nd rfl (by first | exact Or.inl rfl | exact Or.inr rfl) (de_op (c_add rfl) (dv 3) (de_lc rfl S.nd (own := [("_law_other", 8), ("_law_level", 9)]) (di_seq rfl (dv 7)) (blkOk_by (by kernel_rfl)) (fun _ _ _ _ _ => dgo_tup rfl rfl (.cons (pg_name S.nd rfl (by first | exact Or.inl rfl | exact Or.inr rfl)) (.cons (pg_name S.nd rfl (by first | exact Or.inl rfl | exact Or.inr rfl)) (.nil)))) (fun _ _ _ _ _ => dts_one (dt_cmp o_lt (de_ix rfl (hu1 hr) (dv 2) (dv 8) (by intro _ _; rfl)) (dv 9) rfl)) (fun _ _ _ _ _ => de_tup (da_cons (dv 4) (da_cons (dv 8) (da_nil))) (fixed_cons (fixed_cons fixed_nil))))))
  (dss_one (ds_set S.nd rfl (by first | exact Or.inl rfl | exact Or.inr rfl) (de_op (c_add rfl) (dv 3) (de_lc rfl S.nd (own := [("_law_one", 10), ("_law_other", 8)]) (di_seq rfl (de_ix rfl (hu1 hr) (dv 0) (de_int) (by intro _ _; rfl))) (blkOk_by (by kernel_rfl)) (fun _ _ _ _ _ => dgo_tup rfl rfl (.cons (pg_name S.nd rfl (by first | exact Or.inl rfl | exact Or.inr rfl)) (.cons (pg_name S.nd rfl (by first | exact Or.inl rfl | exact Or.inr rfl)) (.nil)))) (fun _ _ _ _ _ => dts_one (dt_w (dw_and (dt_cmp (c_eq rfl (hu64 hr)) (dv 10) (dv 4) rfl) (dw_and1 (dt_cmp o_gt (de_ix rfl (hu1 hr) (dv 2) (dv 8) (by intro _ _; rfl)) (de_int) rfl))))) (fun _ _ _ _ _ => de_tup (da_cons (dv 4) (da_cons (dv 8) (da_nil))) (fixed_cons (fixed_cons fixed_nil)))))))) (dss_nil))))
  (dss_one (ds_ret (dv 3))))
theorem sc__law_build : FnScope ["_law_tree_here", "_law_more", "_law_here", "_law_j", "_law_some", "_law_row"] ["_law_tree_here", "_law_more"] (defScope (top 45)) := ⟨rfl, rfl, rfl, by decide +kernel, rfl, by decide +kernel, by decide +kernel⟩
theorem o__law_build {P : Program} {w : World} {base : Heap} {G : Gx} {mg : Str → Option Value} (V : HF fa fn G mg) : CallF P w mg base G 3 "_law_build" 2 f__law_build :=
  have S := sc__law_build
  callF_mk (st := top 45) (N := ["_law_tree_here", "_law_more", "_law_here", "_law_j", "_law_some", "_law_row"]) (ps := ["_law_tree_here", "_law_more"]) (m := s__law_build) V 31 36 S (by decide) (fun _ _ _ _ _ _ us hl => match us, hl with | [_, _], _ => rfl) fun f cdv A outer s H E hr =>
  dss_cons (ds_set S.nd rfl (by first | exact Or.inl rfl | exact Or.inr rfl) (de_op (c_mul rfl) (de_tup (da_cons (de_int) (da_nil)) (fixed_cons fixed_nil)) (de_kB (k_len rfl) rfl (V.free 47) boot_len (da_cons (de_ix rfl (hu1 hr) (dv 0) (de_int) (by intro _ _; rfl)) (da_nil)))))
  (dss_cons (ds_for [3, 4] body_pass rfl (di_range rfl (V.free 51) (da_cons (de_op c_mod (dv 1) (de_int)) (da_nil)) (fixed_cons fixed_nil)) (dg_name S.nd rfl (by first | exact Or.inl rfl | exact Or.inr rfl))
  (dss_cons (ds_setLc rfl S.nd rfl rfl rfl rfl rfl (own := [("_law_row", 5)]) (di_seq rfl (de_call rfl ((o__law_ups V).mono (by decide)) hr takes_cx rfl (da_cons (dv 0) (da_cons (dv 2) (da_nil))) (len_cons (len_cons len_nil)) (fixed_cons (fixed_cons fixed_nil)))) (blkOk_by (by kernel_rfl)) (fun _ _ _ _ _ => dgo_name S.nd rfl (by first | exact Or.inl rfl | exact Or.inr rfl)) (fun _ _ _ _ _ => dts_one (dt_cmp (c_eq rfl (hu64 hr)) (de_call rfl ((o__law_wrongs V).mono (by decide)) hr takesN0 rfl (da_cons (dv 0) (da_cons (dv 5) (da_nil))) (len_cons (len_cons len_nil)) (fixed_cons (fixed_cons fixed_nil))) (de_lst (da_nil) fixed_nil) rfl)) (fun _ _ _ _ _ => dv 5))
  (dss_one (ds_set S.nd rfl (by first | exact Or.inl rfl | exact Or.inr rfl) (de_if (dt_cmp (c_ne rfl (hu64 hr)) (dv 4) (de_lst (da_nil) fixed_nil) rfl) (de_ix rfl (hu1 hr) (dv 4) (de_op c_mod (de_op c_fdiv (de_call rfl ((o__law_drawn V).mono (by decide)) hr takes_cx rfl (da_cons (dv 1) (da_cons (dv 3) (da_nil))) (len_cons (len_cons len_nil)) (fixed_cons (fixed_cons fixed_nil))) (de_int)) (de_kB (k_len rfl) rfl (V.free 47) boot_len (da_cons (dv 4) (da_nil)))) (by intro _ _; rfl)) (dv 2))))))
  (dss_one (ds_ret (dv 2))))
theorem sc_has_no_ring : FnScope ["skills", "left", "done", "some", "one", "want"] ["skills"] (defScope (top 15)) := ⟨rfl, rfl, rfl, by decide +kernel, rfl, by decide +kernel, by decide +kernel⟩
theorem o_has_no_ring {P : Program} {w : World} {base : Heap} {G : Gx} {mg : Str → Option Value} (V : HF fa fn G mg) : CallF P w mg base G 1 "has_no_ring" 1 f_has_no_ring :=
  have S := sc_has_no_ring
  callF_mk (st := top 15) (N := ["skills", "left", "done", "some", "one", "want"]) (ps := ["skills"]) (m := s_has_no_ring) V 3 8 S (by decide) (fun _ _ _ _ _ _ us hl => match us, hl with | [_], _ => rfl) fun f cdv A outer s H E hr =>
  dss_cons (ds_set S.nd rfl (by first | exact Or.inl rfl | exact Or.inr rfl) (de_kT (k_list rfl) rfl (V.free 48) boot_list (da_cons (dv 0) (da_nil))))
  (dss_cons (ds_set S.nd rfl (by first | exact Or.inl rfl | exact Or.inr rfl) (de_lst (da_nil) fixed_nil))
  (dss_cons (ds_while [3] 12 body_pass (dt_cmp (c_ne rfl (hu64 hr)) (dv 1) (de_lst (da_nil) fixed_nil) rfl)
  (dss_cons (ds_set S.nd rfl (by first | exact Or.inl rfl | exact Or.inr rfl) (de_lc rfl S.nd (own := [("one", 4)]) (di_seq rfl (dv 1)) (blkOk_by (by kernel_rfl)) (fun _ _ _ _ _ => dgo_name S.nd rfl (by first | exact Or.inl rfl | exact Or.inr rfl)) (fun _ _ _ _ _ => dts_one (dt_val (de_kB (k_all rfl rfl) rfl (V.free 41) boot_all (da_cons (de_lc rfl S.nd (own := [("want", 5)]) (di_seq rfl (de_ix rfl (hu1 hr) (dv 4) (de_int) (by intro _ _; rfl))) (blkOk_by (by kernel_rfl)) (fun _ _ _ _ _ => dgo_name S.nd rfl (by first | exact Or.inl rfl | exact Or.inr rfl)) (fun _ _ _ _ _ => dts_nil) (fun _ _ _ _ _ => de_cmp (c_in rfl (hu65 hr)) (de_ix rfl (hu1 hr) (dv 5) (de_int) (by intro _ _; rfl)) (dv 2) rfl)) (da_nil))))) (fun _ _ _ _ _ => dv 4)))
  (dss_cons (ds_if (dt_cmp (c_eq rfl (hu64 hr)) (dv 3) (de_lst (da_nil) fixed_nil) rfl) (dss_one (ds_ret (de_bl))) (dss_nil))
  (dss_cons (ds_extend rfl (pv 2) (de_lc rfl S.nd (own := [("one", 4)]) (di_seq rfl (dv 3)) (blkOk_by (by kernel_rfl)) (fun _ _ _ _ _ => dgo_name S.nd rfl (by first | exact Or.inl rfl | exact Or.inr rfl)) (fun _ _ _ _ _ => dts_nil) (fun _ _ _ _ _ => de_ix rfl (hu1 hr) (dv 4) (de_int) (by intro _ _; rfl))))
  (dss_one (ds_setLc rfl S.nd rfl rfl rfl rfl rfl (own := [("one", 4)]) (di_seq rfl (dv 1)) (blkOk_by (by kernel_rfl)) (fun _ _ _ _ _ => dgo_name S.nd rfl (by first | exact Or.inl rfl | exact Or.inr rfl)) (fun _ _ _ _ _ => dts_one (dt_cmp (c_notIn rfl (hu65 hr)) (dv 4) (dv 3) rfl)) (fun _ _ _ _ _ => dv 4)))))))
  (dss_one (ds_ret (de_bl)))))
theorem sc_are_locks : FnScope ["locks", "mosts", "one", "name"] ["locks", "mosts"] (defScope (top 17)) := ⟨rfl, rfl, rfl, by decide +kernel, rfl, by decide +kernel, by decide +kernel⟩
theorem o_are_locks {P : Program} {w : World} {base : Heap} {G : Gx} {mg : Str → Option Value} (V : HF fa fn G mg) : CallF P w mg base G 1 "are_locks" 2 f_are_locks :=
  have S := sc_are_locks
  callF_mk (st := top 17) (N := ["locks", "mosts", "one", "name"]) (ps := ["locks", "mosts"]) (m := s_are_locks) V 5 10 S (by decide) (fun _ _ _ _ _ _ us hl => match us, hl with | [_, _], _ => rfl) fun f cdv A outer s H E hr =>
  dss_cons (ds_for [2] body_pass rfl (di_seq rfl (dv 0)) (dg_name S.nd rfl (by first | exact Or.inl rfl | exact Or.inr rfl))
  (dss_cons (ds_if (dt_w (dw_or (dt_not (dt_val (de_isi rfl (by decide) rfl rfl (V.free 46) rfl (V.free 56) boot_tuple (dv 2)))) (dw_or1 (dt_cmp (c_ne rfl (hu64 hr)) (de_kB (k_len rfl) rfl (V.free 47) boot_len (da_cons (dv 2) (da_nil))) (de_int) rfl)))) (dss_one (ds_ret (de_bl))) (dss_nil))
  (dss_one (ds_if (dt_not (dt_val (de_kB (k_all rfl rfl) rfl (V.free 41) boot_all (da_cons (de_lc rfl S.nd (own := [("name", 3)]) (di_seq rfl (dv 2)) (blkOk_by (by kernel_rfl)) (fun _ _ _ _ _ => dgo_name S.nd rfl (by first | exact Or.inl rfl | exact Or.inr rfl)) (fun _ _ _ _ _ => dts_nil) (fun _ _ _ _ _ => de_and (de_isi rfl (by decide) rfl rfl (V.free 46) rfl (V.free 54) boot_str (dv 3)) (de_one (de_cmp (c_in rfl (hu65 hr)) (dv 3) (dv 1) rfl)))) (da_nil))))) (dss_one (ds_ret (de_bl))) (dss_nil)))))
  (dss_one (ds_ret (de_and (de_kB (k_all rfl rfl) rfl (V.free 41) boot_all (da_cons (de_lc rfl S.nd (own := [("one", 2)]) (di_seq rfl (dv 0)) (blkOk_by (by kernel_rfl)) (fun _ _ _ _ _ => dgo_name S.nd rfl (by first | exact Or.inl rfl | exact Or.inr rfl)) (fun _ _ _ _ _ => dts_nil) (fun _ _ _ _ _ => de_cmp o_lt (de_ix rfl (hu1 hr) (dv 2) (de_int) (by intro _ _; rfl)) (de_ix rfl (hu1 hr) (dv 2) (de_int) (by intro _ _; rfl)) rfl)) (da_nil))) (de_one (de_cmp (c_eq rfl (hu64 hr)) (de_lenSet rfl rfl (hu64 hr) rfl (V.free 47) rfl (V.free 52) (dv 0)) (de_kB (k_len rfl) rfl (V.free 47) boot_len (da_cons (dv 0) (da_nil))) rfl)))))
theorem sc_is_name : FnScope ["thing", "sign"] ["thing"] (defScope (top 13)) := ⟨rfl, rfl, rfl, by decide +kernel, rfl, by decide +kernel, by decide +kernel⟩
theorem o_is_name {P : Program} {w : World} {base : Heap} {G : Gx} {mg : Str → Option Value} (V : HF fa fn G mg) : CallF P w mg base G 1 "is_name" 1 f_is_name :=
  have S := sc_is_name
  callF_mk (st := top 13) (N := ["thing", "sign"]) (ps := ["thing"]) (m := s_is_name) V 1 6 S (by decide) (fun _ _ _ _ _ _ us hl => match us, hl with | [_], _ => rfl) fun f cdv A outer s H E hr =>
  dss_one (ds_ret (de_and (de_isi rfl (by decide) rfl rfl (V.free 46) rfl (V.free 54) boot_str (dv 0)) (de_and (de_chain o_le o_le (de_int) (de_kB (k_len rfl) rfl (V.free 47) boot_len (da_cons (dv 0) (da_nil))) (de_gint rfl (V.gint 62))) (de_one (de_kB (k_all rfl rfl) rfl (V.free 41) boot_all (da_cons (de_lc rfl S.nd (own := [("sign", 1)]) (di_seq rfl (dv 0)) (blkOk_by (by kernel_rfl)) (fun _ _ _ _ _ => dgo_name S.nd rfl (by first | exact Or.inl rfl | exact Or.inr rfl)) (fun _ _ _ _ _ => dts_nil) (fun _ _ _ _ _ => de_cmp (c_in rfl (hu65 hr)) (dv 1) (de_gstr rfl (V.gstr 58)) rfl)) (da_nil)))))))
theorem sc_is_count : FnScope ["thing", "low", "high"] ["thing", "low", "high"] (defScope (top 12)) := ⟨rfl, rfl, rfl, by decide +kernel, rfl, by decide +kernel, by decide +kernel⟩
theorem o_is_count {P : Program} {w : World} {base : Heap} {G : Gx} {mg : Str → Option Value} (V : HF fa fn G mg) : CallF P w mg base G 1 "is_count" 3 f_is_count :=
  have S := sc_is_count
  callF_mk (st := top 12) (N := ["thing", "low", "high"]) (ps := ["thing", "low", "high"]) (m := s_is_count) V 0 5 S (by decide) (fun _ _ _ _ _ _ us hl => match us, hl with | [_, _, _], _ => rfl) fun f cdv A outer s H E hr =>
  dss_one (ds_ret (de_and (de_isi rfl (by decide) rfl rfl (V.free 46) rfl (V.free 45) boot_int (dv 0)) (de_and (de_not (de_isi rfl (by decide) rfl rfl (V.free 46) rfl (V.free 42) boot_bool (dv 0))) (de_one (de_chain o_le o_le (dv 1) (dv 0) (dv 2))))))
theorem sc_is_skill : FnScope ["thing", "want"] ["thing"] (defScope (top 14)) := ⟨rfl, rfl, rfl, by decide +kernel, rfl, by decide +kernel, by decide +kernel⟩
theorem o_is_skill {P : Program} {w : World} {base : Heap} {G : Gx} {mg : Str → Option Value} (V : HF fa fn G mg) : CallF P w mg base G 2 "is_skill" 1 f_is_skill :=
  have S := sc_is_skill
  callF_mk (st := top 14) (N := ["thing", "want"]) (ps := ["thing"]) (m := s_is_skill) V 2 7 S (by decide) (fun _ _ _ _ _ _ us hl => match us, hl with | [_], _ => rfl) fun f cdv A outer s H E hr =>
  dss_cons (ds_if (dt_w (dw_or (dt_not (dt_val (de_isi rfl (by decide) rfl rfl (V.free 46) rfl (V.free 56) boot_tuple (dv 0)))) (dw_or (dt_cmp (c_ne rfl (hu64 hr)) (de_kB (k_len rfl) rfl (V.free 47) boot_len (da_cons (dv 0) (da_nil))) (de_int) rfl) (dw_or (dt_not (dt_val (de_call rfl ((o_is_name V).mono (by decide)) hr takes_cx rfl (da_cons (de_ix rfl (hu1 hr) (dv 0) (de_int) (by intro _ _; rfl)) (da_nil)) (len_cons len_nil) (fixed_cons fixed_nil)))) (dw_or1 (dt_not (dt_val (de_isi rfl (by decide) rfl rfl (V.free 46) rfl (V.free 56) boot_tuple (de_ix rfl (hu1 hr) (dv 0) (de_int) (by intro _ _; rfl)))))))))) (dss_one (ds_ret (de_bl))) (dss_nil))
  (dss_cons (ds_if (dt_w (dw_or (dt_not (dt_val (de_call rfl ((o_is_count V).mono (by decide)) hr takes_cx rfl (da_cons (de_ix rfl (hu1 hr) (dv 0) (de_int) (by intro _ _; rfl)) (da_cons (de_int) (da_cons (de_gint rfl (V.gint 60)) (da_nil)))) (len_cons (len_cons (len_cons len_nil))) (fixed_cons (fixed_cons (fixed_cons fixed_nil)))))) (dw_or1 (dt_not (dt_val (de_call rfl ((o_is_count V).mono (by decide)) hr takes_cx rfl (da_cons (de_ix rfl (hu1 hr) (dv 0) (de_int) (by intro _ _; rfl)) (da_cons (de_int) (da_cons (de_gint rfl (V.gint 61)) (da_nil)))) (len_cons (len_cons (len_cons len_nil))) (fixed_cons (fixed_cons (fixed_cons fixed_nil))))))))) (dss_one (ds_ret (de_bl))) (dss_nil))
  (dss_cons (ds_for [1] body_pass rfl (di_seq rfl (de_ix rfl (hu1 hr) (dv 0) (de_int) (by intro _ _; rfl))) (dg_name S.nd rfl (by first | exact Or.inl rfl | exact Or.inr rfl))
  (dss_cons (ds_if (dt_w (dw_or (dt_not (dt_val (de_isi rfl (by decide) rfl rfl (V.free 46) rfl (V.free 56) boot_tuple (dv 1)))) (dw_or (dt_cmp (c_ne rfl (hu64 hr)) (de_kB (k_len rfl) rfl (V.free 47) boot_len (da_cons (dv 1) (da_nil))) (de_int) rfl) (dw_or1 (dt_not (dt_val (de_call rfl ((o_is_name V).mono (by decide)) hr takes_cx rfl (da_cons (de_ix rfl (hu1 hr) (dv 1) (de_int) (by intro _ _; rfl)) (da_nil)) (len_cons len_nil) (fixed_cons fixed_nil)))))))) (dss_one (ds_ret (de_bl))) (dss_nil))
  (dss_one (ds_if (dt_not (dt_val (de_call rfl ((o_is_count V).mono (by decide)) hr takes_cx rfl (da_cons (de_ix rfl (hu1 hr) (dv 1) (de_int) (by intro _ _; rfl)) (da_cons (de_int) (da_cons (de_gint rfl (V.gint 60)) (da_nil)))) (len_cons (len_cons (len_cons len_nil))) (fixed_cons (fixed_cons (fixed_cons fixed_nil)))))) (dss_one (ds_ret (de_bl))) (dss_nil)))))
  (dss_one (ds_ret (de_cmp (c_eq rfl (hu64 hr)) (de_lenSet rfl rfl (hu64 hr) rfl (V.free 47) rfl (V.free 52) (de_lc rfl S.nd (own := [("want", 1)]) (di_seq rfl (de_ix rfl (hu1 hr) (dv 0) (de_int) (by intro _ _; rfl))) (blkOk_by (by kernel_rfl)) (fun _ _ _ _ _ => dgo_name S.nd rfl (by first | exact Or.inl rfl | exact Or.inr rfl)) (fun _ _ _ _ _ => dts_nil) (fun _ _ _ _ _ => de_ix rfl (hu1 hr) (dv 1) (de_int) (by intro _ _; rfl)))) (de_kB (k_len rfl) rfl (V.free 47) boot_len (da_cons (de_ix rfl (hu1 hr) (dv 0) (de_int) (by intro _ _; rfl)) (da_nil))) rfl)))))
theorem sc_is_tree : FnScope ["thing", "mosts", "one", "skills", "locks", "name", "level"] ["thing"] (defScope (top 16)) := ⟨rfl, rfl, rfl, by decide +kernel, rfl, by decide +kernel, by decide +kernel⟩
theorem o_is_tree {P : Program} {w : World} {base : Heap} {G : Gx} {mg : Str → Option Value} (V : HF fa fn G mg) : CallF P w mg base G 3 "is_tree" 1 f_is_tree :=
  have S := sc_is_tree
  callF_mk (st := top 16) (N := ["thing", "mosts", "one", "skills", "locks", "name", "level"]) (ps := ["thing"]) (m := s_is_tree) V 4 9 S (by decide) (fun _ _ _ _ _ _ us hl => match us, hl with | [_], _ => rfl) fun f cdv A outer s H E hr =>
  dss_cons (ds_if (dt_w (dw_or (dt_not (dt_val (de_isi rfl (by decide) rfl rfl (V.free 46) rfl (V.free 56) boot_tuple (dv 0)))) (dw_or (dt_cmp (c_ne rfl (hu64 hr)) (de_kB (k_len rfl) rfl (V.free 47) boot_len (da_cons (dv 0) (da_nil))) (de_int) rfl) (dw_or1 (dt_not (dt_val (de_kB (k_all rfl rfl) rfl (V.free 41) boot_all (da_cons (de_lc rfl S.nd (own := [("one", 2)]) (di_seq rfl (dv 0)) (blkOk_by (by kernel_rfl)) (fun _ _ _ _ _ => dgo_name S.nd rfl (by first | exact Or.inl rfl | exact Or.inr rfl)) (fun _ _ _ _ _ => dts_nil) (fun _ _ _ _ _ => de_isi rfl (by decide) rfl rfl (V.free 46) rfl (V.free 56) boot_tuple (dv 2))) (da_nil))))))))) (dss_one (ds_ret (de_bl))) (dss_nil))
  (dss_cons (ds_unp rfl rfl (.cons (pg_name S.nd rfl (by first | exact Or.inl rfl | exact Or.inr rfl)) (.cons (pg_name S.nd rfl (by first | exact Or.inl rfl | exact Or.inr rfl)) (.nil))) (dv 0))
  (dss_cons (ds_if (dt_w (dw_or (dt_not (dt_chain o_le o_le (de_int) (de_kB (k_len rfl) rfl (V.free 47) boot_len (da_cons (dv 3) (da_nil))) (de_gint rfl (V.gint 59)))) (dw_or1 (dt_not (dt_val (de_kB (k_all rfl rfl) rfl (V.free 41) boot_all (da_cons (de_lc rfl S.nd (own := [("one", 2)]) (di_seq rfl (dv 3)) (blkOk_by (by kernel_rfl)) (fun _ _ _ _ _ => dgo_name S.nd rfl (by first | exact Or.inl rfl | exact Or.inr rfl)) (fun _ _ _ _ _ => dts_nil) (fun _ _ _ _ _ => de_call rfl ((o_is_skill V).mono (by decide)) hr takesN0 rfl (da_cons (dv 2) (da_nil)) (len_cons len_nil) (fixed_cons fixed_nil))) (da_nil)))))))) (dss_one (ds_ret (de_bl))) (dss_nil))
  (dss_cons (ds_set S.nd rfl (by first | exact Or.inl rfl | exact Or.inr rfl) (de_kT (k_dictP rfl rfl) rfl (V.free 43) boot_dict (da_cons (de_lc rfl S.nd (own := [("one", 2)]) (di_seq rfl (dv 3)) (blkOk_by (by kernel_rfl)) (fun _ _ _ _ _ => dgo_name S.nd rfl (by first | exact Or.inl rfl | exact Or.inr rfl)) (fun _ _ _ _ _ => dts_nil) (fun _ _ _ _ _ => de_tup (da_cons (de_ix rfl (hu1 hr) (dv 2) (de_int) (by intro _ _; rfl)) (da_cons (de_ix rfl (hu1 hr) (dv 2) (de_int) (by intro _ _; rfl)) (da_nil))) (fixed_cons (fixed_cons fixed_nil)))) (da_nil))))
  (dss_cons (ds_if (dt_cmp (c_ne rfl (hu64 hr)) (de_kB (k_len rfl) rfl (V.free 47) boot_len (da_cons (dv 1) (da_nil))) (de_kB (k_len rfl) rfl (V.free 47) boot_len (da_cons (dv 3) (da_nil))) rfl) (dss_one (ds_ret (de_bl))) (dss_nil))
  (dss_cons (ds_for [2] body_pass rfl (di_seq rfl (dv 3)) (dg_name S.nd rfl (by first | exact Or.inl rfl | exact Or.inr rfl))
  (dss_one (ds_if (dt_not (dt_val (de_kB (k_all rfl rfl) rfl (V.free 41) boot_all (da_cons (de_lc rfl S.nd (own := [("name", 5), ("level", 6)]) (di_seq rfl (de_ix rfl (hu1 hr) (dv 2) (de_int) (by intro _ _; rfl))) (blkOk_by (by kernel_rfl)) (fun _ _ _ _ _ => dgo_tup rfl rfl (.cons (pg_name S.nd rfl (by first | exact Or.inl rfl | exact Or.inr rfl)) (.cons (pg_name S.nd rfl (by first | exact Or.inl rfl | exact Or.inr rfl)) (.nil)))) (fun _ _ _ _ _ => dts_nil) (fun _ _ _ _ _ => de_and (de_cmp (c_in rfl (hu65 hr)) (dv 5) (dv 1) rfl) (de_one (de_cmp o_le (dv 6) (de_ix rfl (hu1 hr) (dv 1) (dv 5) (by intro _ _; rfl)) rfl)))) (da_nil))))) (dss_one (ds_ret (de_bl))) (dss_nil))))
  (dss_one (ds_ret (de_and (de_call rfl ((o_has_no_ring V).mono (by decide)) hr takes_cx rfl (da_cons (dv 3) (da_nil)) (len_cons len_nil) (fixed_cons fixed_nil)) (de_one (de_call rfl ((o_are_locks V).mono (by decide)) hr takes_cx rfl (da_cons (dv 4) (da_cons (dv 1) (da_nil))) (len_cons (len_cons len_nil)) (fixed_cons (fixed_cons fixed_nil))))))))))))
theorem sc_need_tree : FnScope ["tree"] ["tree"] (defScope (top 18)) := ⟨rfl, rfl, rfl, by decide +kernel, rfl, by decide +kernel, by decide +kernel⟩
theorem o_need_tree {P : Program} {w : World} {base : Heap} {G : Gx} {mg : Str → Option Value} (V : HF fa fn G mg) : CallF P w mg base G 4 "need_tree" 1 f_need_tree :=
  have S := sc_need_tree
  callF_mk (st := top 18) (N := ["tree"]) (ps := ["tree"]) (m := s_need_tree) V 6 11 S (by decide) (fun _ _ _ _ _ _ us hl => match us, hl with | [_], _ => rfl) fun f cdv A outer s H E hr =>
  dss_one (ds_if (dt_not (dt_val (de_call rfl ((o_is_tree V).mono (by decide)) hr takes_cx rfl (da_cons (dv 0) (da_nil)) (len_cons len_nil) (fixed_cons fixed_nil)))) (dss_one (ds_raise rfl rfl takes_cx (V.exc 1 63) rfl)) (dss_nil))
theorem sc_are_levels : FnScope ["tree", "thing", "level", "one"] ["tree", "thing"] (defScope (top 23)) := ⟨rfl, rfl, rfl, by decide +kernel, rfl, by decide +kernel, by decide +kernel⟩
theorem o_are_levels {P : Program} {w : World} {base : Heap} {G : Gx} {mg : Str → Option Value} (V : HF fa fn G mg) : CallF P w mg base G 2 "are_levels" 2 f_are_levels :=
  have S := sc_are_levels
  callF_mk (st := top 23) (N := ["tree", "thing", "level", "one"]) (ps := ["tree", "thing"]) (m := s_are_levels) V 11 16 S (by decide) (fun _ _ _ _ _ _ us hl => match us, hl with | [_, _], _ => rfl) fun f cdv A outer s H E hr =>
  dss_cons (ds_if (dt_w (dw_or (dt_not (dt_val (de_isi rfl (by decide) rfl rfl (V.free 46) rfl (V.free 56) boot_tuple (dv 1)))) (dw_or1 (dt_cmp (c_ne rfl (hu64 hr)) (de_kB (k_len rfl) rfl (V.free 47) boot_len (da_cons (dv 1) (da_nil))) (de_kB (k_len rfl) rfl (V.free 47) boot_len (da_cons (de_ix rfl (hu1 hr) (dv 0) (de_int) (by intro _ _; rfl)) (da_nil))) rfl)))) (dss_one (ds_ret (de_bl))) (dss_nil))
  (dss_one (ds_ret (de_kB (k_all rfl rfl) rfl (V.free 41) boot_all (da_cons (de_lc rfl S.nd (own := [("level", 2), ("one", 3)]) (di_zipB (.inl ⟨_, _, _, rfl⟩) rfl rfl (V.free 57) (da_cons (dv 1) (da_cons (de_ix rfl (hu1 hr) (dv 0) (de_int) (by intro _ _; rfl)) (da_nil))) (fixed_cons (fixed_cons fixed_nil))) (blkOk_by (by kernel_rfl)) (fun _ _ _ _ _ => dgo_tup rfl rfl (.cons (pg_name S.nd rfl (by first | exact Or.inl rfl | exact Or.inr rfl)) (.cons (pg_name S.nd rfl (by first | exact Or.inl rfl | exact Or.inr rfl)) (.nil)))) (fun _ _ _ _ _ => dts_nil) (fun _ _ _ _ _ => de_call rfl ((o_is_count V).mono (by decide)) hr takesN0 rfl (da_cons (dv 2) (da_cons (de_int) (da_cons (de_ix rfl (hu1 hr) (dv 3) (de_int) (by intro _ _; rfl)) (da_nil)))) (len_cons (len_cons (len_cons len_nil))) (fixed_cons (fixed_cons (fixed_cons fixed_nil))))) (da_nil)))))
theorem sc_names_of : FnScope ["tree", "one"] ["tree"] (defScope (top 19)) := ⟨rfl, rfl, rfl, by decide +kernel, rfl, by decide +kernel, by decide +kernel⟩
theorem o_names_of {P : Program} {w : World} {base : Heap} {G : Gx} {mg : Str → Option Value} (V : HF fa fn G mg) : CallF P w mg base G 1 "names_of" 1 f_names_of :=
  have S := sc_names_of
  callF_mk (st := top 19) (N := ["tree", "one"]) (ps := ["tree"]) (m := s_names_of) V 7 12 S (by decide) (fun _ _ _ _ _ _ us hl => match us, hl with | [_], _ => rfl) fun f cdv A outer s H E hr =>
  dss_one (ds_ret (de_lc rfl S.nd (own := [("one", 1)]) (di_seq rfl (de_ix rfl (hu1 hr) (dv 0) (de_int) (by intro _ _; rfl))) (blkOk_by (by kernel_rfl)) (fun _ _ _ _ _ => dgo_name S.nd rfl (by first | exact Or.inl rfl | exact Or.inr rfl)) (fun _ _ _ _ _ => dts_nil) (fun _ _ _ _ _ => de_ix rfl (hu1 hr) (dv 1) (de_int) (by intro _ _; rfl))))
theorem sc_levels_of : FnScope ["tree", "build"] ["tree", "build"] (defScope (top 20)) := ⟨rfl, rfl, rfl, by decide +kernel, rfl, by decide +kernel, by decide +kernel⟩
theorem o_levels_of {P : Program} {w : World} {base : Heap} {G : Gx} {mg : Str → Option Value} (V : HF fa fn G mg) : CallF P w mg base G 2 "levels_of" 2 f_levels_of :=
  have S := sc_levels_of
  callF_mk (st := top 20) (N := ["tree", "build"]) (ps := ["tree", "build"]) (m := s_levels_of) V 8 13 S (by decide) (fun _ _ _ _ _ _ us hl => match us, hl with | [_, _], _ => rfl) fun f cdv A outer s H E hr =>
  dss_one (ds_ret (de_dictZip rfl rfl rfl (V.free 43) rfl (V.free 57) (da_cons (de_call rfl ((o_names_of V).mono (by decide)) hr takes_cx rfl (da_cons (dv 0) (da_nil)) (len_cons len_nil) (fixed_cons fixed_nil)) (da_cons (dv 1) (da_nil)))))
theorem sc_clashes : FnScope ["tree", "levels", "one"] ["tree", "levels"] (defScope (top 22)) := ⟨rfl, rfl, rfl, by decide +kernel, rfl, by decide +kernel, by decide +kernel⟩
theorem o_clashes {P : Program} {w : World} {base : Heap} {G : Gx} {mg : Str → Option Value} (V : HF fa fn G mg) : CallF P w mg base G 1 "clashes" 2 f_clashes :=
  have S := sc_clashes
  callF_mk (st := top 22) (N := ["tree", "levels", "one"]) (ps := ["tree", "levels"]) (m := s_clashes) V 10 15 S (by decide) (fun _ _ _ _ _ _ us hl => match us, hl with | [_, _], _ => rfl) fun f cdv A outer s H E hr =>
  dss_one (ds_ret (de_lc rfl S.nd (own := [("one", 2)]) (di_seq rfl (de_ix rfl (hu1 hr) (dv 0) (de_int) (by intro _ _; rfl))) (blkOk_by (by kernel_rfl)) (fun _ _ _ _ _ => dgo_name S.nd rfl (by first | exact Or.inl rfl | exact Or.inr rfl)) (fun _ _ _ _ _ => dts_one (dt_w (dw_and (dt_cmp o_gt (de_ix rfl (hu1 hr) (dv 1) (de_ix rfl (hu1 hr) (dv 2) (de_int) (by intro _ _; rfl)) (by intro _ _; rfl)) (de_int) rfl) (dw_and1 (dt_cmp o_gt (de_ix rfl (hu1 hr) (dv 1) (de_ix rfl (hu1 hr) (dv 2) (de_int) (by intro _ _; rfl)) (by intro _ _; rfl)) (de_int) rfl))))) (fun _ _ _ _ _ => dv 2)))
theorem sc_lacking : FnScope ["tree", "levels", "name", "one", "want"] ["tree", "levels", "name"] (defScope (top 21)) := ⟨rfl, rfl, rfl, by decide +kernel, rfl, by decide +kernel, by decide +kernel⟩
theorem o_lacking {P : Program} {w : World} {base : Heap} {G : Gx} {mg : Str → Option Value} (V : HF fa fn G mg) : CallF P w mg base G 1 "lacking" 3 f_lacking :=
  have S := sc_lacking
  callF_mk (st := top 21) (N := ["tree", "levels", "name", "one", "want"]) (ps := ["tree", "levels", "name"]) (m := s_lacking) V 9 14 S (by decide) (fun _ _ _ _ _ _ us hl => match us, hl with | [_, _, _], _ => rfl) fun f cdv A outer s H E hr =>
  dss_cons (ds_set S.nd rfl (by first | exact Or.inl rfl | exact Or.inr rfl) (de_ix rfl (hu1 hr) (de_lc rfl S.nd (own := [("one", 3)]) (di_seq rfl (de_ix rfl (hu1 hr) (dv 0) (de_int) (by intro _ _; rfl))) (blkOk_by (by kernel_rfl)) (fun _ _ _ _ _ => dgo_name S.nd rfl (by first | exact Or.inl rfl | exact Or.inr rfl)) (fun _ _ _ _ _ => dts_one (dt_cmp (c_eq rfl (hu64 hr)) (de_ix rfl (hu1 hr) (dv 3) (de_int) (by intro _ _; rfl)) (dv 2) rfl)) (fun _ _ _ _ _ => dv 3)) (de_int) (by intro _ _; rfl)))
  (dss_one (ds_ret (de_lc rfl S.nd (own := [("want", 4)]) (di_seq rfl (de_ix rfl (hu1 hr) (dv 3) (de_int) (by intro _ _; rfl))) (blkOk_by (by kernel_rfl)) (fun _ _ _ _ _ => dgo_name S.nd rfl (by first | exact Or.inl rfl | exact Or.inr rfl)) (fun _ _ _ _ _ => dts_one (dt_cmp o_lt (de_ix rfl (hu1 hr) (dv 1) (de_ix rfl (hu1 hr) (dv 4) (de_int) (by intro _ _; rfl)) (by intro _ _; rfl)) (de_ix rfl (hu1 hr) (dv 4) (de_int) (by intro _ _; rfl)) rfl)) (fun _ _ _ _ _ => dv 4))))
theorem sc_holds : FnScope ["tree", "build", "levels", "name"] ["tree", "build"] (defScope (top 24)) := ⟨rfl, rfl, rfl, by decide +kernel, rfl, by decide +kernel, by decide +kernel⟩
theorem o_holds {P : Program} {w : World} {base : Heap} {G : Gx} {mg : Str → Option Value} (V : HF fa fn G mg) : CallF P w mg base G 3 "holds" 2 f_holds :=
  have S := sc_holds
  callF_mk (st := top 24) (N := ["tree", "build", "levels", "name"]) (ps := ["tree", "build"]) (m := s_holds) V 12 17 S (by decide) (fun _ _ _ _ _ _ us hl => match us, hl with | [_, _], _ => rfl) fun f cdv A outer s H E hr =>
  dss_cons (ds_set S.nd rfl (by first | exact Or.inl rfl | exact Or.inr rfl) (de_call rfl ((o_levels_of V).mono (by decide)) hr takes_cx rfl (da_cons (dv 0) (da_cons (dv 1) (da_nil))) (len_cons (len_cons len_nil)) (fixed_cons (fixed_cons fixed_nil))))
  (dss_cons (ds_if (dt_cmp (c_ne rfl (hu64 hr)) (de_call rfl ((o_clashes V).mono (by decide)) hr takes_cx rfl (da_cons (dv 0) (da_cons (dv 2) (da_nil))) (len_cons (len_cons len_nil)) (fixed_cons (fixed_cons fixed_nil))) (de_lst (da_nil) fixed_nil) rfl) (dss_one (ds_ret (de_bl))) (dss_nil))
  (dss_one (ds_ret (de_kB (k_all rfl rfl) rfl (V.free 41) boot_all (da_cons (de_lc rfl S.nd (own := [("name", 3)]) (di_seq rfl (de_call rfl ((o_names_of V).mono (by decide)) hr takes_cx rfl (da_cons (dv 0) (da_nil)) (len_cons len_nil) (fixed_cons fixed_nil))) (blkOk_by (by kernel_rfl)) (fun _ _ _ _ _ => dgo_name S.nd rfl (by first | exact Or.inl rfl | exact Or.inr rfl)) (fun _ _ _ _ _ => dts_nil) (fun _ _ _ _ _ => de_or (de_cmp (c_eq rfl (hu64 hr)) (de_ix rfl (hu1 hr) (dv 2) (dv 3) (by intro _ _; rfl)) (de_int) rfl) (de_one (de_cmp (c_eq rfl (hu64 hr)) (de_call rfl ((o_lacking V).mono (by decide)) hr takesN0 rfl (da_cons (dv 0) (da_cons (dv 2) (da_cons (dv 3) (da_nil)))) (len_cons (len_cons (len_cons len_nil))) (fixed_cons (fixed_cons (fixed_cons fixed_nil)))) (de_lst (da_nil) fixed_nil) rfl)))) (da_nil))))))
theorem sc_is_build : FnScope ["tree", "thing"] ["tree", "thing"] (defScope (top 25)) := ⟨rfl, rfl, rfl, by decide +kernel, rfl, by decide +kernel, by decide +kernel⟩
theorem o_is_build {P : Program} {w : World} {base : Heap} {G : Gx} {mg : Str → Option Value} (V : HF fa fn G mg) : CallF P w mg base G 5 "is_build" 2 f_is_build :=
  have S := sc_is_build
  callF_mk (st := top 25) (N := ["tree", "thing"]) (ps := ["tree", "thing"]) (m := s_is_build) V 13 18 S (by decide) (fun _ _ _ _ _ _ us hl => match us, hl with | [_, _], _ => rfl) fun f cdv A outer s H E hr =>
  dss_cons (ds_expr (de_call rfl ((o_need_tree V).mono (by decide)) hr takes_cx rfl (da_cons (dv 0) (da_nil)) (len_cons len_nil) (fixed_cons fixed_nil)))
  (dss_one (ds_ret (de_and (de_call rfl ((o_are_levels V).mono (by decide)) hr takes_cx rfl (da_cons (dv 0) (da_cons (dv 1) (da_nil))) (len_cons (len_cons len_nil)) (fixed_cons (fixed_cons fixed_nil))) (de_one (de_call rfl ((o_holds V).mono (by decide)) hr takes_cx rfl (da_cons (dv 0) (da_cons (dv 1) (da_nil))) (len_cons (len_cons len_nil)) (fixed_cons (fixed_cons fixed_nil)))))))
theorem sc_need_build : FnScope ["tree", "build"] ["tree", "build"] (defScope (top 26)) := ⟨rfl, rfl, rfl, by decide +kernel, rfl, by decide +kernel, by decide +kernel⟩
theorem o_need_build {P : Program} {w : World} {base : Heap} {G : Gx} {mg : Str → Option Value} (V : HF fa fn G mg) : CallF P w mg base G 6 "need_build" 2 f_need_build :=
  have S := sc_need_build
  callF_mk (st := top 26) (N := ["tree", "build"]) (ps := ["tree", "build"]) (m := s_need_build) V 14 19 S (by decide) (fun _ _ _ _ _ _ us hl => match us, hl with | [_, _], _ => rfl) fun f cdv A outer s H E hr =>
  dss_one (ds_if (dt_not (dt_val (de_call rfl ((o_is_build V).mono (by decide)) hr takes_cx rfl (da_cons (dv 0) (da_cons (dv 1) (da_nil))) (len_cons (len_cons len_nil)) (fixed_cons (fixed_cons fixed_nil))))) (dss_one (ds_raise rfl rfl takes_cx (V.exc 2 64) rfl)) (dss_nil))
theorem sc_joined : FnScope ["tree", "one", "other", "found", "pair"] ["tree", "one", "other"] (defScope (top 37)) := ⟨rfl, rfl, rfl, by decide +kernel, rfl, by decide +kernel, by decide +kernel⟩
theorem o_joined {P : Program} {w : World} {base : Heap} {G : Gx} {mg : Str → Option Value} (V : HF fa fn G mg) : CallF P w mg base G 7 "joined" 3 f_joined :=
  have S := sc_joined
  callF_mk (st := top 37) (N := ["tree", "one", "other", "found", "pair"]) (ps := ["tree", "one", "other"]) (m := s_joined) V 24 29 S (by decide) (fun _ _ _ _ _ _ us hl => match us, hl with | [_, _, _], _ => rfl) fun f cdv A outer s H E hr =>
  dss_cons (ds_expr (de_call rfl ((o_need_build V).mono (by decide)) hr takes_cx rfl (da_cons (dv 0) (da_cons (dv 1) (da_nil))) (len_cons (len_cons len_nil)) (fixed_cons (fixed_cons fixed_nil))))
  (dss_cons (ds_expr (de_call rfl ((o_need_build V).mono (by decide)) hr takes_cx rfl (da_cons (dv 0) (da_cons (dv 2) (da_nil))) (len_cons (len_cons len_nil)) (fixed_cons (fixed_cons fixed_nil))))
  (dss_cons (ds_set S.nd rfl (by first | exact Or.inl rfl | exact Or.inr rfl) (de_kT (k_tuple rfl) rfl (V.free 56) boot_tuple (da_cons (de_lc rfl S.nd (own := [("pair", 4)]) (di_zipB (.inr ⟨_, _, rfl⟩) rfl rfl (V.free 57) (da_cons (dv 1) (da_cons (dv 2) (da_nil))) (fixed_cons (fixed_cons fixed_nil))) (blkOk_by (by kernel_rfl)) (fun _ _ _ _ _ => dgo_name S.nd rfl (by first | exact Or.inl rfl | exact Or.inr rfl)) (fun _ _ _ _ _ => dts_nil) (fun _ _ _ _ _ => de_kB (k_maxT rfl rfl (hu64 hr)) rfl (V.free 49) boot_max (da_cons (dv 4) (da_nil)))) (da_nil))))
  (dss_one (ds_ret (de_if (dt_val (de_call rfl ((o_holds V).mono (by decide)) hr takes_cx rfl (da_cons (dv 0) (da_cons (dv 3) (da_nil))) (len_cons (len_cons len_nil)) (fixed_cons (fixed_cons fixed_nil)))) (dv 3) (de_non))))))
theorem sc_met : FnScope ["tree", "one", "other", "pair"] ["tree", "one", "other"] (defScope (top 36)) := ⟨rfl, rfl, rfl, by decide +kernel, rfl, by decide +kernel, by decide +kernel⟩
theorem o_met {P : Program} {w : World} {base : Heap} {G : Gx} {mg : Str → Option Value} (V : HF fa fn G mg) : CallF P w mg base G 7 "met" 3 f_met :=
  have S := sc_met
  callF_mk (st := top 36) (N := ["tree", "one", "other", "pair"]) (ps := ["tree", "one", "other"]) (m := s_met) V 23 28 S (by decide) (fun _ _ _ _ _ _ us hl => match us, hl with | [_, _, _], _ => rfl) fun f cdv A outer s H E hr =>
  dss_cons (ds_expr (de_call rfl ((o_need_build V).mono (by decide)) hr takes_cx rfl (da_cons (dv 0) (da_cons (dv 1) (da_nil))) (len_cons (len_cons len_nil)) (fixed_cons (fixed_cons fixed_nil))))
  (dss_cons (ds_expr (de_call rfl ((o_need_build V).mono (by decide)) hr takes_cx rfl (da_cons (dv 0) (da_cons (dv 2) (da_nil))) (len_cons (len_cons len_nil)) (fixed_cons (fixed_cons fixed_nil))))
  (dss_one (ds_ret (de_kT (k_tuple rfl) rfl (V.free 56) boot_tuple (da_cons (de_lc rfl S.nd (own := [("pair", 3)]) (di_zipB (.inr ⟨_, _, rfl⟩) rfl rfl (V.free 57) (da_cons (dv 1) (da_cons (dv 2) (da_nil))) (fixed_cons (fixed_cons fixed_nil))) (blkOk_by (by kernel_rfl)) (fun _ _ _ _ _ => dgo_name S.nd rfl (by first | exact Or.inl rfl | exact Or.inr rfl)) (fun _ _ _ _ _ => dts_nil) (fun _ _ _ _ _ => de_kB (k_minT rfl rfl (hu64 hr)) rfl (V.free 50) boot_min (da_cons (dv 3) (da_nil)))) (da_nil))))))
theorem sc__law_three_right : FnScope ["_law_tree_here", "_law_one", "_law_other", "_law_third", "_law_both", "_law_free", "_law_low"] ["_law_tree_here", "_law_one", "_law_other", "_law_third"] (defScope (top 47)) := ⟨rfl, rfl, rfl, by decide +kernel, rfl, by decide +kernel, by decide +kernel⟩
theorem o__law_three_right {P : Program} {w : World} {base : Heap} {G : Gx} {mg : Str → Option Value} (V : HF fa fn G mg) : CallF P w mg base G 8 "_law_three_right" 4 f__law_three_right :=
  have S := sc__law_three_right
  callF_mk (st := top 47) (N := ["_law_tree_here", "_law_one", "_law_other", "_law_third", "_law_both", "_law_free", "_law_low"]) (ps := ["_law_tree_here", "_law_one", "_law_other", "_law_third"]) (m := s__law_three_right) V 33 38 S (by decide) (fun _ _ _ _ _ _ us hl => match us, hl with | [_, _, _, _], _ => rfl) fun f cdv A outer s H E hr =>
  dss_cons (ds_par rfl S.nd rfl rfl (by decide) rfl rfl (de_tup (da_cons (de_ix rfl (hu1 hr) (dv 0) (de_int) (by intro _ _; rfl)) (da_cons (de_tup (da_nil) fixed_nil) (da_nil))) (fixed_cons (fixed_cons fixed_nil))) (de_call rfl ((o_met V).mono (by decide)) hr takes_cx rfl (da_cons (dv 0) (da_cons (dv 1) (da_cons (dv 2) (da_nil)))) (len_cons (len_cons (len_cons len_nil))) (fixed_cons (fixed_cons (fixed_cons fixed_nil)))))
  (dss_cons (ds_if (dt_w (dw_or (dt_cmp (c_ne rfl (hu64 hr)) (dv 6) (de_call rfl ((o_met V).mono (by decide)) hr takes_cx rfl (da_cons (dv 0) (da_cons (dv 2) (da_cons (dv 1) (da_nil)))) (len_cons (len_cons (len_cons len_nil))) (fixed_cons (fixed_cons (fixed_cons fixed_nil)))) rfl) (dw_or (dt_cmp (c_ne rfl (hu64 hr)) (de_call rfl ((o_met V).mono (by decide)) hr takes_cx rfl (da_cons (dv 0) (da_cons (dv 1) (da_cons (dv 1) (da_nil)))) (len_cons (len_cons (len_cons len_nil))) (fixed_cons (fixed_cons (fixed_cons fixed_nil)))) (dv 1) rfl) (dw_or1 (dt_cmp (c_ne rfl (hu64 hr)) (de_call rfl ((o_joined V).mono (by decide)) hr takes_cx rfl (da_cons (dv 0) (da_cons (dv 1) (da_cons (dv 1) (da_nil)))) (len_cons (len_cons (len_cons len_nil))) (fixed_cons (fixed_cons (fixed_cons fixed_nil)))) (dv 1) rfl))))) (dss_one (ds_ret (de_bl))) (dss_nil))
  (dss_cons (ds_if (dt_cmp (c_ne rfl (hu64 hr)) (de_call rfl ((o_met V).mono (by decide)) hr takes_cx rfl (da_cons (dv 0) (da_cons (dv 6) (da_cons (dv 3) (da_nil)))) (len_cons (len_cons (len_cons len_nil))) (fixed_cons (fixed_cons (fixed_cons fixed_nil)))) (de_call rfl ((o_met V).mono (by decide)) hr takes_cx rfl (da_cons (dv 0) (da_cons (dv 1) (da_cons (de_call rfl ((o_met V).mono (by decide)) hr takes_cx rfl (da_cons (dv 0) (da_cons (dv 2) (da_cons (dv 3) (da_nil)))) (len_cons (len_cons (len_cons len_nil))) (fixed_cons (fixed_cons (fixed_cons fixed_nil)))) (da_nil)))) (len_cons (len_cons (len_cons len_nil))) (fixed_cons (fixed_cons (fixed_cons fixed_nil)))) rfl) (dss_one (ds_ret (de_bl))) (dss_nil))
  (dss_cons (ds_set S.nd rfl (by first | exact Or.inl rfl | exact Or.inr rfl) (de_call rfl ((o_joined V).mono (by decide)) hr takes_cx rfl (da_cons (dv 5) (da_cons (dv 1) (da_cons (dv 2) (da_nil)))) (len_cons (len_cons (len_cons len_nil))) (fixed_cons (fixed_cons (fixed_cons fixed_nil)))))
  (dss_cons (ds_if (dt_w (dw_or (dt_cmp (c_ne rfl (hu64 hr)) (dv 4) (de_call rfl ((o_joined V).mono (by decide)) hr takes_cx rfl (da_cons (dv 5) (da_cons (dv 2) (da_cons (dv 1) (da_nil)))) (len_cons (len_cons (len_cons len_nil))) (fixed_cons (fixed_cons (fixed_cons fixed_nil)))) rfl) (dw_or (dt_cmp (c_ne rfl (hu64 hr)) (de_call rfl ((o_met V).mono (by decide)) hr takes_cx rfl (da_cons (dv 5) (da_cons (dv 1) (da_cons (dv 4) (da_nil)))) (len_cons (len_cons (len_cons len_nil))) (fixed_cons (fixed_cons (fixed_cons fixed_nil)))) (dv 1) rfl) (dw_or1 (dt_cmp (c_ne rfl (hu64 hr)) (de_call rfl ((o_joined V).mono (by decide)) hr takes_cx rfl (da_cons (dv 5) (da_cons (dv 1) (da_cons (dv 6) (da_nil)))) (len_cons (len_cons (len_cons len_nil))) (fixed_cons (fixed_cons (fixed_cons fixed_nil)))) (dv 1) rfl))))) (dss_one (ds_ret (de_bl))) (dss_nil))
  (dss_cons (ds_if (dt_cmp (c_ne rfl (hu64 hr)) (de_call rfl ((o_joined V).mono (by decide)) hr takes_cx rfl (da_cons (dv 5) (da_cons (dv 4) (da_cons (dv 3) (da_nil)))) (len_cons (len_cons (len_cons len_nil))) (fixed_cons (fixed_cons (fixed_cons fixed_nil)))) (de_call rfl ((o_joined V).mono (by decide)) hr takes_cx rfl (da_cons (dv 5) (da_cons (dv 1) (da_cons (de_call rfl ((o_joined V).mono (by decide)) hr takes_cx rfl (da_cons (dv 5) (da_cons (dv 2) (da_cons (dv 3) (da_nil)))) (len_cons (len_cons (len_cons len_nil))) (fixed_cons (fixed_cons (fixed_cons fixed_nil)))) (da_nil)))) (len_cons (len_cons (len_cons len_nil))) (fixed_cons (fixed_cons (fixed_cons fixed_nil)))) rfl) (dss_one (ds_ret (de_bl))) (dss_nil))
  (dss_one (ds_ret (de_and (de_cmp (c_inT rfl (hu65 hr)) (de_call rfl ((o_joined V).mono (by decide)) hr takes_cx rfl (da_cons (dv 0) (da_cons (dv 1) (da_cons (dv 2) (da_nil)))) (len_cons (len_cons (len_cons len_nil))) (fixed_cons (fixed_cons (fixed_cons fixed_nil)))) (de_tup (da_cons (de_non) (da_cons (dv 4) (da_nil))) (fixed_cons (fixed_cons fixed_nil))) rfl) (de_one (de_cmp o_isNot (dv 4) (de_non) rfl))))))))))
theorem sc_need_name : FnScope ["tree", "name"] ["tree", "name"] (defScope (top 27)) := ⟨rfl, rfl, rfl, by decide +kernel, rfl, by decide +kernel, by decide +kernel⟩
theorem o_need_name {P : Program} {w : World} {base : Heap} {G : Gx} {mg : Str → Option Value} (V : HF fa fn G mg) : CallF P w mg base G 2 "need_name" 2 f_need_name :=
  have S := sc_need_name
  callF_mk (st := top 27) (N := ["tree", "name"]) (ps := ["tree", "name"]) (m := s_need_name) V 15 20 S (by decide) (fun _ _ _ _ _ _ us hl => match us, hl with | [_, _], _ => rfl) fun f cdv A outer s H E hr =>
  dss_one (ds_if (dt_w (dw_or (dt_not (dt_val (de_isi rfl (by decide) rfl rfl (V.free 46) rfl (V.free 54) boot_str (dv 1)))) (dw_or1 (dt_cmp (c_notIn rfl (hu65 hr)) (dv 1) (de_call rfl ((o_names_of V).mono (by decide)) hr takes_cx rfl (da_cons (dv 0) (da_nil)) (len_cons len_nil) (fixed_cons fixed_nil)) rfl)))) (dss_one (ds_raise rfl rfl takes_cx (V.exc 3 65) rfl)) (dss_nil))
theorem sc_need_goals : FnScope ["tree", "goals", "goal", "most", "one"] ["tree", "goals"] (defScope (top 30)) := ⟨rfl, rfl, rfl, by decide +kernel, rfl, by decide +kernel, by decide +kernel⟩
theorem o_need_goals {P : Program} {w : World} {base : Heap} {G : Gx} {mg : Str → Option Value} (V : HF fa fn G mg) : CallF P w mg base G 3 "need_goals" 2 f_need_goals :=
  have S := sc_need_goals
  callF_mk (st := top 30) (N := ["tree", "goals", "goal", "most", "one"]) (ps := ["tree", "goals"]) (m := s_need_goals) V 17 22 S (by decide) (fun _ _ _ _ _ _ us hl => match us, hl with | [_, _], _ => rfl) fun f cdv A outer s H E hr =>
  dss_cons (ds_if (dt_not (dt_val (de_isi rfl (by decide) rfl rfl (V.free 46) rfl (V.free 48) boot_list (dv 1)))) (dss_one (ds_raise rfl rfl takes_cx (V.exc 4 66) rfl)) (dss_nil))
  (dss_cons (ds_for [2, 3] body_pass rfl (di_seq rfl (dv 1)) (dg_name S.nd rfl (by first | exact Or.inl rfl | exact Or.inr rfl))
  (dss_cons (ds_if (dt_w (dw_or (dt_not (dt_val (de_isi rfl (by decide) rfl rfl (V.free 46) rfl (V.free 56) boot_tuple (dv 2)))) (dw_or1 (dt_cmp (c_ne rfl (hu64 hr)) (de_kB (k_len rfl) rfl (V.free 47) boot_len (da_cons (dv 2) (da_nil))) (de_int) rfl)))) (dss_one (ds_raise rfl rfl takes_cx (V.exc 4 66) rfl)) (dss_nil))
  (dss_cons (ds_expr (de_call rfl ((o_need_name V).mono (by decide)) hr takes_cx rfl (da_cons (dv 0) (da_cons (de_ix rfl (hu1 hr) (dv 2) (de_int) (by intro _ _; rfl)) (da_nil))) (len_cons (len_cons len_nil)) (fixed_cons (fixed_cons fixed_nil))))
  (dss_cons (ds_set S.nd rfl (by first | exact Or.inl rfl | exact Or.inr rfl) (de_ix rfl (hu1 hr) (de_lc rfl S.nd (own := [("one", 4)]) (di_seq rfl (de_ix rfl (hu1 hr) (dv 0) (de_int) (by intro _ _; rfl))) (blkOk_by (by kernel_rfl)) (fun _ _ _ _ _ => dgo_name S.nd rfl (by first | exact Or.inl rfl | exact Or.inr rfl)) (fun _ _ _ _ _ => dts_one (dt_cmp (c_eq rfl (hu64 hr)) (de_ix rfl (hu1 hr) (dv 4) (de_int) (by intro _ _; rfl)) (de_ix rfl (hu1 hr) (dv 2) (de_int) (by intro _ _; rfl)) rfl)) (fun _ _ _ _ _ => de_ix rfl (hu1 hr) (dv 4) (de_int) (by intro _ _; rfl))) (de_int) (by intro _ _; rfl)))
  (dss_one (ds_if (dt_not (dt_val (de_call rfl ((o_is_count V).mono (by decide)) hr takes_cx rfl (da_cons (de_ix rfl (hu1 hr) (dv 2) (de_int) (by intro _ _; rfl)) (da_cons (de_int) (da_cons (dv 3) (da_nil)))) (len_cons (len_cons (len_cons len_nil))) (fixed_cons (fixed_cons (fixed_cons fixed_nil)))))) (dss_one (ds_raise rfl rfl takes_cx (V.exc 4 66) rfl)) (dss_nil)))))))
  (dss_one (ds_if (dt_cmp (c_ne rfl (hu64 hr)) (de_lenSet rfl rfl (hu64 hr) rfl (V.free 47) rfl (V.free 52) (de_lc rfl S.nd (own := [("goal", 2)]) (di_seq rfl (dv 1)) (blkOk_by (by kernel_rfl)) (fun _ _ _ _ _ => dgo_name S.nd rfl (by first | exact Or.inl rfl | exact Or.inr rfl)) (fun _ _ _ _ _ => dts_nil) (fun _ _ _ _ _ => de_ix rfl (hu1 hr) (dv 2) (de_int) (by intro _ _; rfl)))) (de_kB (k_len rfl) rfl (V.free 47) boot_len (da_cons (dv 1) (da_nil))) rfl) (dss_one (ds_raise rfl rfl takes_cx (V.exc 4 66) rfl)) (dss_nil))))
theorem sc_grown : FnScope ["tree", "levels", "found", "wanted", "name", "most", "price", "wants", "other", "level"] ["tree", "levels"] (defScope (top 31)) := ⟨rfl, rfl, rfl, by decide +kernel, rfl, by decide +kernel, by decide +kernel⟩
theorem o_grown {P : Program} {w : World} {base : Heap} {G : Gx} {mg : Str → Option Value} (V : HF fa fn G mg) : CallF P w mg base G 1 "grown" 2 f_grown :=
  have S := sc_grown
  callF_mk (st := top 31) (N := ["tree", "levels", "found", "wanted", "name", "most", "price", "wants", "other", "level"]) (ps := ["tree", "levels"]) (m := s_grown) V 18 23 S (by decide) (fun _ _ _ _ _ _ us hl => match us, hl with | [_, _], _ => rfl) fun f cdv A outer s H E hr =>
  dss_cons (ds_set S.nd rfl (by first | exact Or.inl rfl | exact Or.inr rfl) (de_kT (k_dictA rfl rfl) rfl (V.free 43) boot_dict (da_cons (dv 1) (da_nil))))
  (dss_cons (ds_set S.nd rfl (by first | exact Or.inl rfl | exact Or.inr rfl) (de_bl))
  (dss_cons (ds_while [4, 5, 6, 7, 8, 9] 40 body_pass (dt_val (dv 3))
  (dss_cons (ds_set S.nd rfl (by first | exact Or.inl rfl | exact Or.inr rfl) (de_bl))
  (dss_one (ds_for [4, 5, 6, 7, 8, 9] body_pass rfl (di_seq rfl (de_ix rfl (hu1 hr) (dv 0) (de_int) (by intro _ _; rfl))) (dg_tup rfl rfl (.cons (pg_name S.nd rfl (by first | exact Or.inl rfl | exact Or.inr rfl)) (.cons (pg_name S.nd rfl (by first | exact Or.inl rfl | exact Or.inr rfl)) (.cons (pg_name S.nd rfl (by first | exact Or.inl rfl | exact Or.inr rfl)) (.cons (pg_name S.nd rfl (by first | exact Or.inl rfl | exact Or.inr rfl)) (.nil))))))
  (dss_one (ds_for [8, 9] body_pass rfl (di_seq rfl (dv 7)) (dg_tup rfl rfl (.cons (pg_name S.nd rfl (by first | exact Or.inl rfl | exact Or.inr rfl)) (.cons (pg_name S.nd rfl (by first | exact Or.inl rfl | exact Or.inr rfl)) (.nil))))
  (dss_one (ds_if (dt_w (dw_and (dt_cmp o_gt (de_ix rfl (hu1 hr) (dv 2) (dv 4) (by intro _ _; rfl)) (de_int) rfl) (dw_and1 (dt_cmp o_lt (de_ix rfl (hu1 hr) (dv 2) (dv 8) (by intro _ _; rfl)) (dv 9) rfl)))) (dss_cons (ds_put (hu1 hr) (pv 2) (dv 8) (dv 9))
  (dss_one (ds_set S.nd rfl (by first | exact Or.inl rfl | exact Or.inr rfl) (de_bl)))) (dss_nil)))))))))
  (dss_one (ds_ret (dv 2)))))
theorem sc_goal_levels : FnScope ["tree", "goals", "levels", "name", "level"] ["tree", "goals"] (defScope (top 32)) := ⟨rfl, rfl, rfl, by decide +kernel, rfl, by decide +kernel, by decide +kernel⟩
theorem o_goal_levels {P : Program} {w : World} {base : Heap} {G : Gx} {mg : Str → Option Value} (V : HF fa fn G mg) : CallF P w mg base G 3 "goal_levels" 2 f_goal_levels :=
  have S := sc_goal_levels
  callF_mk (st := top 32) (N := ["tree", "goals", "levels", "name", "level"]) (ps := ["tree", "goals"]) (m := s_goal_levels) V 19 24 S (by decide) (fun _ _ _ _ _ _ us hl => match us, hl with | [_, _], _ => rfl) fun f cdv A outer s H E hr =>
  dss_cons (ds_set S.nd rfl (by first | exact Or.inl rfl | exact Or.inr rfl) (de_call rfl ((o_levels_of V).mono (by decide)) hr takes_cx rfl (da_cons (dv 0) (da_cons (de_op (c_mul rfl) (de_tup (da_cons (de_int) (da_nil)) (fixed_cons fixed_nil)) (de_kB (k_len rfl) rfl (V.free 47) boot_len (da_cons (de_ix rfl (hu1 hr) (dv 0) (de_int) (by intro _ _; rfl)) (da_nil)))) (da_nil))) (len_cons (len_cons len_nil)) (fixed_cons (fixed_cons fixed_nil))))
  (dss_cons (ds_for [3, 4] body_pass rfl (di_seq rfl (dv 1)) (dg_tup rfl rfl (.cons (pg_name S.nd rfl (by first | exact Or.inl rfl | exact Or.inr rfl)) (.cons (pg_name S.nd rfl (by first | exact Or.inl rfl | exact Or.inr rfl)) (.nil))))
  (dss_one (ds_put (hu1 hr) (pv 2) (dv 3) (dv 4))))
  (dss_one (ds_ret (de_call rfl ((o_grown V).mono (by decide)) hr takes_cx rfl (da_cons (dv 0) (da_cons (dv 2) (da_nil))) (len_cons (len_cons len_nil)) (fixed_cons (fixed_cons fixed_nil))))))
theorem sc_least : FnScope ["tree", "goals", "found", "name"] ["tree", "goals"] (defScope (top 33)) := ⟨rfl, rfl, rfl, by decide +kernel, rfl, by decide +kernel, by decide +kernel⟩
theorem o_least {P : Program} {w : World} {base : Heap} {G : Gx} {mg : Str → Option Value} (V : HF fa fn G mg) : CallF P w mg base G 5 "least" 2 f_least :=
  have S := sc_least
  callF_mk (st := top 33) (N := ["tree", "goals", "found", "name"]) (ps := ["tree", "goals"]) (m := s_least) V 20 25 S (by decide) (fun _ _ _ _ _ _ us hl => match us, hl with | [_, _], _ => rfl) fun f cdv A outer s H E hr =>
  dss_cons (ds_expr (de_call rfl ((o_need_tree V).mono (by decide)) hr takes_cx rfl (da_cons (dv 0) (da_nil)) (len_cons len_nil) (fixed_cons fixed_nil)))
  (dss_cons (ds_expr (de_call rfl ((o_need_goals V).mono (by decide)) hr takes_cx rfl (da_cons (dv 0) (da_cons (dv 1) (da_nil))) (len_cons (len_cons len_nil)) (fixed_cons (fixed_cons fixed_nil))))
  (dss_cons (ds_set S.nd rfl (by first | exact Or.inl rfl | exact Or.inr rfl) (de_call rfl ((o_goal_levels V).mono (by decide)) hr takes_cx rfl (da_cons (dv 0) (da_cons (dv 1) (da_nil))) (len_cons (len_cons len_nil)) (fixed_cons (fixed_cons fixed_nil))))
  (dss_cons (ds_if (dt_cmp (c_ne rfl (hu64 hr)) (de_call rfl ((o_clashes V).mono (by decide)) hr takes_cx rfl (da_cons (dv 0) (da_cons (dv 2) (da_nil))) (len_cons (len_cons len_nil)) (fixed_cons (fixed_cons fixed_nil))) (de_lst (da_nil) fixed_nil) rfl) (dss_one (ds_ret (de_non))) (dss_nil))
  (dss_one (ds_ret (de_kT (k_tuple rfl) rfl (V.free 56) boot_tuple (da_cons (de_lc rfl S.nd (own := [("name", 3)]) (di_seq rfl (de_call rfl ((o_names_of V).mono (by decide)) hr takes_cx rfl (da_cons (dv 0) (da_nil)) (len_cons len_nil) (fixed_cons fixed_nil))) (blkOk_by (by kernel_rfl)) (fun _ _ _ _ _ => dgo_name S.nd rfl (by first | exact Or.inl rfl | exact Or.inr rfl)) (fun _ _ _ _ _ => dts_nil) (fun _ _ _ _ _ => de_ix rfl (hu1 hr) (dv 2) (dv 3) (by intro _ _; rfl))) (da_nil))))))))
theorem sc_cost_of : FnScope ["tree", "build", "level", "one"] ["tree", "build"] (defScope (top 28)) := ⟨rfl, rfl, rfl, by decide +kernel, rfl, by decide +kernel, by decide +kernel⟩
theorem o_cost_of {P : Program} {w : World} {base : Heap} {G : Gx} {mg : Str → Option Value} (V : HF fa fn G mg) : CallF P w mg base G 1 "cost_of" 2 f_cost_of :=
  have S := sc_cost_of
  callF_mk (st := top 28) (N := ["tree", "build", "level", "one"]) (ps := ["tree", "build"]) (m := s_cost_of) V 16 21 S (by decide) (fun _ _ _ _ _ _ us hl => match us, hl with | [_, _], _ => rfl) fun f cdv A outer s H E hr =>
  dss_one (ds_ret (de_kB (k_sum rfl rfl) rfl (V.free 55) boot_sum (da_cons (de_lc rfl S.nd (own := [("level", 2), ("one", 3)]) (di_zipB (.inl ⟨_, _, _, rfl⟩) rfl rfl (V.free 57) (da_cons (dv 1) (da_cons (de_ix rfl (hu1 hr) (dv 0) (de_int) (by intro _ _; rfl)) (da_nil))) (fixed_cons (fixed_cons fixed_nil))) (blkOk_by (by kernel_rfl)) (fun _ _ _ _ _ => dgo_tup rfl rfl (.cons (pg_name S.nd rfl (by first | exact Or.inl rfl | exact Or.inr rfl)) (.cons (pg_name S.nd rfl (by first | exact Or.inl rfl | exact Or.inr rfl)) (.nil)))) (fun _ _ _ _ _ => dts_nil) (fun _ _ _ _ _ => de_op (c_mul rfl) (dv 2) (de_ix rfl (hu1 hr) (dv 3) (de_int) (by intro _ _; rfl)))) (da_nil))))
theorem sc_price : FnScope ["tree", "goals", "found"] ["tree", "goals"] (defScope (top 34)) := ⟨rfl, rfl, rfl, by decide +kernel, rfl, by decide +kernel, by decide +kernel⟩
theorem o_price {P : Program} {w : World} {base : Heap} {G : Gx} {mg : Str → Option Value} (V : HF fa fn G mg) : CallF P w mg base G 6 "price" 2 f_price :=
  have S := sc_price
  callF_mk (st := top 34) (N := ["tree", "goals", "found"]) (ps := ["tree", "goals"]) (m := s_price) V 21 26 S (by decide) (fun _ _ _ _ _ _ us hl => match us, hl with | [_, _], _ => rfl) fun f cdv A outer s H E hr =>
  dss_cons (ds_set S.nd rfl (by first | exact Or.inl rfl | exact Or.inr rfl) (de_call rfl ((o_least V).mono (by decide)) hr takes_cx rfl (da_cons (dv 0) (da_cons (dv 1) (da_nil))) (len_cons (len_cons len_nil)) (fixed_cons (fixed_cons fixed_nil))))
  (dss_one (ds_ret (de_if (dt_cmp o_is (dv 2) (de_non) rfl) (de_non) (de_call rfl ((o_cost_of V).mono (by decide)) hr takes_cx rfl (da_cons (dv 0) (da_cons (dv 2) (da_nil))) (len_cons (len_cons len_nil)) (fixed_cons (fixed_cons fixed_nil))))))
theorem sc__law_cost : FnScope ["_law_tree_here", "_law_row", "_law_level", "_law_one"] ["_law_tree_here", "_law_row"] (defScope (top 44)) := ⟨rfl, rfl, rfl, by decide +kernel, rfl, by decide +kernel, by decide +kernel⟩
theorem o__law_cost {P : Program} {w : World} {base : Heap} {G : Gx} {mg : Str → Option Value} (V : HF fa fn G mg) : CallF P w mg base G 1 "_law_cost" 2 f__law_cost :=
  have S := sc__law_cost
  callF_mk (st := top 44) (N := ["_law_tree_here", "_law_row", "_law_level", "_law_one"]) (ps := ["_law_tree_here", "_law_row"]) (m := s__law_cost) V 30 35 S (by decide) (fun _ _ _ _ _ _ us hl => match us, hl with | [_, _], _ => rfl) fun f cdv A outer s H E hr =>
  dss_one (ds_ret (de_kB (k_sum rfl rfl) rfl (V.free 55) boot_sum (da_cons (de_lc rfl S.nd (own := [("_law_level", 2), ("_law_one", 3)]) (di_zipB (.inl ⟨_, _, _, rfl⟩) rfl rfl (V.free 57) (da_cons (dv 1) (da_cons (de_ix rfl (hu1 hr) (dv 0) (de_int) (by intro _ _; rfl)) (da_nil))) (fixed_cons (fixed_cons fixed_nil))) (blkOk_by (by kernel_rfl)) (fun _ _ _ _ _ => dgo_tup rfl rfl (.cons (pg_name S.nd rfl (by first | exact Or.inl rfl | exact Or.inr rfl)) (.cons (pg_name S.nd rfl (by first | exact Or.inl rfl | exact Or.inr rfl)) (.nil)))) (fun _ _ _ _ _ => dts_nil) (fun _ _ _ _ _ => de_op (c_mul rfl) (dv 2) (de_ix rfl (hu1 hr) (dv 3) (de_int) (by intro _ _; rfl)))) (da_nil))))
theorem sc_barred_by : FnScope ["tree", "goals"] ["tree", "goals"] (defScope (top 35)) := ⟨rfl, rfl, rfl, by decide +kernel, rfl, by decide +kernel, by decide +kernel⟩
theorem o_barred_by {P : Program} {w : World} {base : Heap} {G : Gx} {mg : Str → Option Value} (V : HF fa fn G mg) : CallF P w mg base G 5 "barred_by" 2 f_barred_by :=
  have S := sc_barred_by
  callF_mk (st := top 35) (N := ["tree", "goals"]) (ps := ["tree", "goals"]) (m := s_barred_by) V 22 27 S (by decide) (fun _ _ _ _ _ _ us hl => match us, hl with | [_, _], _ => rfl) fun f cdv A outer s H E hr =>
  dss_cons (ds_expr (de_call rfl ((o_need_tree V).mono (by decide)) hr takes_cx rfl (da_cons (dv 0) (da_nil)) (len_cons len_nil) (fixed_cons fixed_nil)))
  (dss_cons (ds_expr (de_call rfl ((o_need_goals V).mono (by decide)) hr takes_cx rfl (da_cons (dv 0) (da_cons (dv 1) (da_nil))) (len_cons (len_cons len_nil)) (fixed_cons (fixed_cons fixed_nil))))
  (dss_one (ds_ret (de_call rfl ((o_clashes V).mono (by decide)) hr takes_cx rfl (da_cons (dv 0) (da_cons (de_call rfl ((o_goal_levels V).mono (by decide)) hr takes_cx rfl (da_cons (dv 0) (da_cons (dv 1) (da_nil))) (len_cons (len_cons len_nil)) (fixed_cons (fixed_cons fixed_nil))) (da_nil))) (len_cons (len_cons len_nil)) (fixed_cons (fixed_cons fixed_nil))))))
def st_law : List LamSite := []
theorem sc_law : FnScope ["_law_script", "_law_k", "_law_more", "_law_tree_here", "_law_free", "_law_rows", "_law_names_here", "_law_row", "_law_mine", "_law_used", "_law_its", "_law_one", "_law_other", "_law_third", "_law_goals", "_law_j", "_law_goal", "_law_name", "_law_level"] ["_law_script"] (defScope (top 48)) := ⟨rfl, rfl, rfl, by decide +kernel, rfl, by decide +kernel, by decide +kernel⟩
theorem lb_law {P : Program} {w : World} {base : Heap} {G : Gx} {mg : Str → Option Value} (V : HF fa fn G mg) {f : Addr} {cdv : Value} {A : Around} {outer : List Env} {s : Shared} {H : Hp} {E : XK} : LamBs (cxOf (L2N.CX P w) P w G.K mg base ["_law_script", "_law_k", "_law_more", "_law_tree_here", "_law_free", "_law_rows", "_law_names_here", "_law_row", "_law_mine", "_law_used", "_law_its", "_law_one", "_law_other", "_law_third", "_law_goals", "_law_j", "_law_goal", "_law_name", "_law_level"] "law" (defScope (top 48)) f cdv A outer s H E) (G.lams (cxOf (L2N.CX P w) P w G.K mg base ["_law_script", "_law_k", "_law_more", "_law_tree_here", "_law_free", "_law_rows", "_law_names_here", "_law_row", "_law_mine", "_law_used", "_law_its", "_law_one", "_law_other", "_law_third", "_law_goals", "_law_j", "_law_goal", "_law_name", "_law_level"] "law" (defScope (top 48)) f cdv A outer s H E) st_law) 6 st_law ms_law :=
  .nil
theorem o_law {P : Program} {w : World} {base : Heap} {G : Gx} {mg : Str → Option Value} (V : HF fa fn G mg)  {fd : FuncData} (Fd : FunD G.K "law" "law" (defArgs (top 48)) (defBody (top 48)) (defScope (top 48)) [] [] (He.fAd G.K ("law", none)) fd) : FnOk P w G.K mg base (L2N.CX P w) 9 (He.fAd G.K ("law", none)) fd ["_law_script"] (spOf G 1 f_law) := by
  have S := sc_law
  exact fn_dlL (st := top 48) (N := ["_law_script", "_law_k", "_law_more", "_law_tree_here", "_law_free", "_law_rows", "_law_names_here", "_law_row", "_law_mine", "_law_used", "_law_its", "_law_one", "_law_other", "_law_third", "_law_goals", "_law_j", "_law_goal", "_law_name", "_law_level"]) (ps := ["_law_script"]) (m := s_law) st_law Fd S (by decide) fun f A outer s H E hr => by
    exact
      dss_cons (ds_for [1, 2, 3, 4, 5, 6, 7, 8, 9, 10, 11, 12, 13, 14] body_pass rfl (di_range rfl (V.free 51) (da_cons (de_kB (k_max rfl rfl) rfl (V.free 49) boot_max (da_cons (de_int) (da_cons (de_kB (k_min rfl rfl) rfl (V.free 50) boot_min (da_cons (de_int) (da_cons (de_kB (k_len rfl) rfl (V.free 47) boot_len (da_cons (dv 0) (da_nil))) (da_nil)))) (da_nil)))) (da_nil)) (fixed_cons fixed_nil)) (dg_name S.nd rfl (by first | exact Or.inl rfl | exact Or.inr rfl))
        (dss_cons (ds_set S.nd rfl (by first | exact Or.inl rfl | exact Or.inr rfl) (de_call rfl (((o__law_drawn V).mono (k := 8) (by decide)).lams _ _) hr takes_cx rfl (da_cons (de_call rfl (((o__law_cell V).mono (k := 8) (by decide)).lams _ _) hr takes_cx rfl (da_cons (dv 0) (da_cons (dv 1) (da_nil))) (len_cons (len_cons len_nil)) (fixed_cons (fixed_cons fixed_nil))) (da_cons (dv 1) (da_nil))) (len_cons (len_cons len_nil)) (fixed_cons (fixed_cons fixed_nil))))
        (dss_cons (ds_set S.nd rfl (by first | exact Or.inl rfl | exact Or.inr rfl) (de_call rfl (((o__law_tree V).mono (k := 8) (by decide)).lams _ _) hr takes_cx rfl (da_cons (de_op c_fdiv (dv 2) (de_int)) (da_cons (de_int) (da_nil))) (len_cons (len_cons len_nil)) (fixed_cons (fixed_cons fixed_nil))))
        (dss_cons (ds_set S.nd rfl (by first | exact Or.inl rfl | exact Or.inr rfl) (de_tup (da_cons (de_ix rfl (hu1 hr) (dv 3) (de_int) (by intro _ _; rfl)) (da_cons (de_tup (da_nil) fixed_nil) (da_nil))) (fixed_cons (fixed_cons fixed_nil))))
        (dss_cons (ds_setLc rfl S.nd rfl rfl rfl rfl rfl (own := [("_law_j", 15)]) (di_range rfl (V.free 51) (da_cons (de_int) (da_nil)) (fixed_cons fixed_nil)) (blkOk_by (by kernel_rfl)) (fun _ _ _ _ _ => dgo_name S.nd rfl (by first | exact Or.inl rfl | exact Or.inr rfl)) (fun _ _ _ _ _ => dts_nil) (fun _ _ _ _ _ => de_call rfl (((o__law_build V).mono (k := 8) (by decide)).lams _ _) hr takesN0 rfl (da_cons (dv 3) (da_cons (de_call rfl (((o__law_drawn V).mono (k := 8) (by decide)).lams _ _) hr takesN0 rfl (da_cons (dv 2) (da_cons (de_op (c_add rfl) (de_int) (dv 15)) (da_nil))) (len_cons (len_cons len_nil)) (fixed_cons (fixed_cons fixed_nil))) (da_nil))) (len_cons (len_cons len_nil)) (fixed_cons (fixed_cons fixed_nil))))
        (dss_cons (ds_unpL rfl rfl (.cons (pg_name S.nd rfl (by first | exact Or.inl rfl | exact Or.inr rfl)) (.cons (pg_name S.nd rfl (by first | exact Or.inl rfl | exact Or.inr rfl)) (.cons (pg_name S.nd rfl (by first | exact Or.inl rfl | exact Or.inr rfl)) (.nil)))) (dv 5))
        (dss_cons (ds_if (dt_not (dt_val (de_call rfl (((o__law_three_right V).mono (k := 8) (by decide)).lams _ _) hr takes_cx rfl (da_cons (dv 3) (da_cons (dv 11) (da_cons (dv 12) (da_cons (dv 13) (da_nil))))) (len_cons (len_cons (len_cons (len_cons len_nil)))) (fixed_cons (fixed_cons (fixed_cons (fixed_cons fixed_nil))))))) (dss_one (ds_ret (de_bl))) (dss_nil))
        (dss_cons (ds_set S.nd rfl (by first | exact Or.inl rfl | exact Or.inr rfl) (de_call rfl (((o__law_names V).mono (k := 8) (by decide)).lams _ _) hr takes_cx rfl (da_cons (dv 3) (da_nil)) (len_cons len_nil) (fixed_cons fixed_nil)))
        (dss_cons (ds_for [7, 14] body_pass rfl (di_seq rfl (dv 5)) (dg_name S.nd rfl (by first | exact Or.inl rfl | exact Or.inr rfl))
        (dss_cons (ds_setLc rfl S.nd rfl rfl rfl rfl rfl (own := [("_law_name", 17), ("_law_level", 18)]) (di_zipB (.inl ⟨_, _, _, rfl⟩) rfl rfl (V.free 57) (da_cons (dv 6) (da_cons (dv 7) (da_nil))) (fixed_cons (fixed_cons fixed_nil))) (blkOk_by (by kernel_rfl)) (fun _ _ _ _ _ => dgo_tup rfl rfl (.cons (pg_name S.nd rfl (by first | exact Or.inl rfl | exact Or.inr rfl)) (.cons (pg_name S.nd rfl (by first | exact Or.inl rfl | exact Or.inr rfl)) (.nil)))) (fun _ _ _ _ _ => dts_one (dt_cmp o_gt (dv 18) (de_int) rfl)) (fun _ _ _ _ _ => de_tup (da_cons (dv 17) (da_cons (dv 18) (da_nil))) (fixed_cons (fixed_cons fixed_nil))))
        (dss_one (ds_if (dt_w (dw_or (dt_cmp (c_ne rfl (hu64 hr)) (de_call rfl (((o_least V).mono (k := 8) (by decide)).lams _ _) hr takes_cx rfl (da_cons (dv 3) (da_cons (dv 14) (da_nil))) (len_cons (len_cons len_nil)) (fixed_cons (fixed_cons fixed_nil))) (dv 7) rfl) (dw_or (dt_cmp (c_ne rfl (hu64 hr)) (de_call rfl (((o_price V).mono (k := 8) (by decide)).lams _ _) hr takes_cx rfl (da_cons (dv 3) (da_cons (dv 14) (da_nil))) (len_cons (len_cons len_nil)) (fixed_cons (fixed_cons fixed_nil))) (de_call rfl (((o__law_cost V).mono (k := 8) (by decide)).lams _ _) hr takes_cx rfl (da_cons (dv 3) (da_cons (dv 7) (da_nil))) (len_cons (len_cons len_nil)) (fixed_cons (fixed_cons fixed_nil))) rfl) (dw_or1 (dt_cmp (c_ne rfl (hu64 hr)) (de_call rfl (((o_barred_by V).mono (k := 8) (by decide)).lams _ _) hr takes_cx rfl (da_cons (dv 3) (da_cons (dv 14) (da_nil))) (len_cons (len_cons len_nil)) (fixed_cons (fixed_cons fixed_nil))) (de_lst (da_nil) fixed_nil) rfl))))) (dss_one (ds_ret (de_bl))) (dss_nil)))))
        (dss_cons (ds_set S.nd rfl (by first | exact Or.inl rfl | exact Or.inr rfl) (de_cut rfl (de_lc rfl S.nd (own := [("_law_name", 17), ("_law_level", 18)]) (di_zipB (.inl ⟨_, _, _, rfl⟩) rfl rfl (V.free 57) (da_cons (dv 6) (da_cons (dv 11) (da_nil))) (fixed_cons (fixed_cons fixed_nil))) (blkOk_by (by kernel_rfl)) (fun _ _ _ _ _ => dgo_tup rfl rfl (.cons (pg_name S.nd rfl (by first | exact Or.inl rfl | exact Or.inr rfl)) (.cons (pg_name S.nd rfl (by first | exact Or.inl rfl | exact Or.inr rfl)) (.nil)))) (fun _ _ _ _ _ => dts_one (dt_cmp o_gt (dv 18) (de_int) rfl)) (fun _ _ _ _ _ => de_tup (da_cons (dv 17) (da_cons (dv 18) (da_nil))) (fixed_cons (fixed_cons fixed_nil)))) dp_none (dp_some (de_int))))
        (dss_cons (ds_set S.nd rfl (by first | exact Or.inl rfl | exact Or.inr rfl) (de_lc rfl S.nd (own := [("_law_goal", 16)]) (di_seq rfl (dv 8)) (blkOk_by (by kernel_rfl)) (fun _ _ _ _ _ => dgo_name S.nd rfl (by first | exact Or.inl rfl | exact Or.inr rfl)) (fun _ _ _ _ _ => dts_nil) (fun _ _ _ _ _ => de_ix rfl (hu1 hr) (dv 16) (de_int) (by intro _ _; rfl))))
        (dss_cons (ds_set S.nd rfl (by first | exact Or.inl rfl | exact Or.inr rfl) (de_cut rfl (de_lc rfl S.nd (own := [("_law_name", 17), ("_law_level", 18)]) (di_zipB (.inl ⟨_, _, _, rfl⟩) rfl rfl (V.free 57) (da_cons (dv 6) (da_cons (dv 12) (da_nil))) (fixed_cons (fixed_cons fixed_nil))) (blkOk_by (by kernel_rfl)) (fun _ _ _ _ _ => dgo_tup rfl rfl (.cons (pg_name S.nd rfl (by first | exact Or.inl rfl | exact Or.inr rfl)) (.cons (pg_name S.nd rfl (by first | exact Or.inl rfl | exact Or.inr rfl)) (.nil)))) (fun _ _ _ _ _ => dts_one (dt_w (dw_and (dt_cmp o_gt (dv 18) (de_int) rfl) (dw_and1 (dt_cmp (c_notIn rfl (hu65 hr)) (dv 17) (dv 9) rfl))))) (fun _ _ _ _ _ => de_tup (da_cons (dv 17) (da_cons (dv 18) (da_nil))) (fixed_cons (fixed_cons fixed_nil)))) dp_none (dp_some (de_int))))
        (dss_cons (ds_if (dt_cmp (c_ne rfl (hu64 hr)) (de_call rfl (((o_least V).mono (k := 8) (by decide)).lams _ _) hr takes_cx rfl (da_cons (dv 4) (da_cons (de_op (c_add rfl) (dv 8) (dv 10)) (da_nil))) (len_cons (len_cons len_nil)) (fixed_cons (fixed_cons fixed_nil))) (de_call rfl (((o_joined V).mono (k := 8) (by decide)).lams _ _) hr takes_cx rfl (da_cons (dv 4) (da_cons (de_call rfl (((o_least V).mono (k := 8) (by decide)).lams _ _) hr takes_cx rfl (da_cons (dv 4) (da_cons (dv 8) (da_nil))) (len_cons (len_cons len_nil)) (fixed_cons (fixed_cons fixed_nil))) (da_cons (de_call rfl (((o_least V).mono (k := 8) (by decide)).lams _ _) hr takes_cx rfl (da_cons (dv 4) (da_cons (dv 10) (da_nil))) (len_cons (len_cons len_nil)) (fixed_cons (fixed_cons fixed_nil))) (da_nil)))) (len_cons (len_cons (len_cons len_nil))) (fixed_cons (fixed_cons (fixed_cons fixed_nil)))) rfl) (dss_one (ds_ret (de_bl))) (dss_nil))
        (dss_one (ds_if (dt_w (dw_or (dt_cmp (c_ne rfl (hu64 hr)) (de_call rfl (((o_least V).mono (k := 8) (by decide)).lams _ _) hr takes_cx rfl (da_cons (dv 3) (da_cons (de_lst (da_nil) fixed_nil) (da_nil))) (len_cons (len_cons len_nil)) (fixed_cons (fixed_cons fixed_nil))) (de_op (c_mul rfl) (de_tup (da_cons (de_int) (da_nil)) (fixed_cons fixed_nil)) (de_kB (k_len rfl) rfl (V.free 47) boot_len (da_cons (dv 6) (da_nil)))) rfl) (dw_or1 (dt_cmp (c_ne rfl (hu64 hr)) (de_call rfl (((o_price V).mono (k := 8) (by decide)).lams _ _) hr takes_cx rfl (da_cons (dv 3) (da_cons (de_lst (da_nil) fixed_nil) (da_nil))) (len_cons (len_cons len_nil)) (fixed_cons (fixed_cons fixed_nil))) (de_int) rfl)))) (dss_one (ds_ret (de_bl))) (dss_nil))))))))))))))))
        (dss_one (ds_ret (de_bl)))
end LW
end
section
set_option linter.all false
set_option maxRecDepth 100000
set_option maxHeartbeats 0
namespace LW
open PySem PySem.Spec PyProof.Rows L2 DL LamX SM
def tf : List He.Defn := []
def ex : PySem.W.Frag → Bool := DL.excsB xsl "SkillError"
abbrev R : PySem.W.OpenRow := PySem.W.OpenLaw.row PySem.Challenge.rw_skillwants_k42_whole_goals_together
abbrev hk : PySem.W.Hook := He.hookX 4 fa fn [] tf ex
def ob (s : PySem.W.SharedT) : He.AlX := He.obsX 4 fa fn [] tf ex (HandSHeadRun.getT s)
theorem ob_eq (s : PySem.W.SharedT) : ob s = hk.obs s.abs := He.obsX_eq (HandSHeadRun.getT_eq s)
def loose1 : List Str := (["SkillError", "BadTree", "BadBuild", "BadName", "BadNumber", "is_count", "is_name", "is_skill", "has_no_ring", "is_tree", "are_locks", "need_tree", "names_of", "levels_of", "lacking", "clashes", "are_levels", "holds", "is_build", "need_build", "need_name", "cost_of", "need_goals", "grown", "goal_levels", "least", "price", "barred_by", "met", "joined"] : List Str) ++ (["_law_cell", "_law_drawn", "_law_tree", "_law_names", "_law_wrongs", "_law_cost", "_law_build", "_law_ups", "_law_three_right", "MOST_COST", "MOST_LEVEL", "MOST_NAME", "MOST_SKILLS", "SMALL"] : List Str)
theorem run (w : World) : HandSHeadRun.RunEq R (PySem.W.view R.prog [48]) hk ob 4000 loose1 w := by
  intro os
  kernel_rfl
theorem facts {w : World} {K : PySem.W.Frag} {h : Heap} {mg : Str → Option Value} {f : Addr} (hg : ∀ ns : List Int, ns.length ≤ 63 → (∀ z ∈ ns, Builtin.Int.intBits z ≤ 1048576) → f_law [.d (.scr ns)] = .ret (.bl true) false) (X : K.In h) (N : h.Ns mainGlobals mg) (hfa : mg ("law" : Str) = some (.ref f)) (Y : He.SaysX fa fn [] tf ex w h K) :
    LawAtS PySem.Challenge.rw_skillwants_k42_whole_goals_together w K (L2N.CX (PySem.Challenge.rw_skillwants_k42_whole_goals_together).prog w) 9 63 "_law_script" mg f h := by
  have c : He.SaysD fa fn K := Y.t.d
  obtain ⟨fd, Fd⟩ := c.def_ 34 (d := d_law) rfl
  have e := hfa.symm.trans (He.glo_ok X N (c.fact 39 (f := .glo "law") rfl))
  cases e
  have b := FunD.bindsA (ps := ["_law_script"]) Fd fun _ _ _ _ _ _ us hl => match us, hl with | [_], _ => rfl
  refine lawS_of Y X (by decide) (fun s v => b s [v] rfl) hg fun base X1 X2 X3 => ?_
  refine ⟨gxOf (PySem.Challenge.rw_skillwants_k42_whole_goals_together).prog w mg base K [] 7, rfl, fun p hp => ?_, ?_⟩
  · cases hp
  · exact o_law (G := gxOf (PySem.Challenge.rw_skillwants_k42_whole_goals_together).prog w mg base K [] 7) ⟨c, h, X, N⟩  Fd
end LW
open PySem PySem.W PySem.Calls PyProof.Rows
theorem holds_of (hg : ∀ ns : List Int, ns.length ≤ 63 → (∀ z ∈ ns, Builtin.Int.intBits z ≤ 1048576) → LW.f_law [.d (.scr ns)] = .ret (.bl true) false) : PySem.Challenge.rw_skillwants_k42_whole_goals_together.Holds := by
  w_on; o_law
  refine HandSHeadRun.head_any (r := OpenLaw.row PySem.Challenge.rw_skillwants_k42_whole_goals_together) (q := view (OpenLaw.row PySem.Challenge.rw_skillwants_k42_whole_goals_together).prog [48]) (H := LW.hk) (ob := LW.ob) (M := 4000) (loose := LW.loose1) (d := HandSHeadRun.topDef (OpenLaw.row PySem.Challenge.rw_skillwants_k42_whole_goals_together).prog 48) (kwd := []) LW.ob_eq
    (by kernel_rfl) (fun s => by kernel_rfl) LW.run (by kernel_rfl) (by kernel_rfl) (by kernel_rfl) (by rfl) (by first | assumption | decide +kernel) (by decide +kernel) ⟨rfl, rfl, rfl, rfl, rfl, by decide +kernel⟩ ?hw ?hc
  case hw => w_witness2
  case hc =>
    refine LamX.walk_ofTsE (l := PySem.Challenge.rw_skillwants_k42_whole_goals_together) (n := 63) (k := 9) (x := "_law_script") (CX := fun w => L2N.CX (PySem.Challenge.rw_skillwants_k42_whole_goals_together).prog w) rfl (by decide) (by kernel_rfl) ⟨rfl, by decide, by decide⟩ ?F (fun _ _ _ _ _ z => by obtain ⟨_, _, _, _, _, _, _, _, _, _, _, _, q⟩ := z; exact q)
    intro w mg fa h Y G hmg0
    obtain ⟨K, KX, c⟩ := Y
    have hmg : mg ("law" : PySem.Str) = some (.ref fa) := by
      have e : (HandSHeadRun.topDef (OpenLaw.row PySem.Challenge.rw_skillwants_k42_whole_goals_together).prog 48).name = ("law" : PySem.Str) := by kernel_rfl
      rw [← e]
      exact hmg0
    exact ⟨K, KX, LW.facts hg KX G hmg c⟩
end
section
set_option linter.all false
set_option maxRecDepth 100000
set_option autoImplicit false
/-! plain evaluation, by rules -/
namespace DL
open PySem
/-! expressions -/
structure Ee (e : ME) (sl : Sl) (r : Rv) (sl' : Sl) : Prop where
  out : e sl = .ok r sl'
structure Et (t : MT) (sl : Sl) (b : Bool) (sl' : Sl) : Prop where
  out : t sl = .ok b sl'
structure Ei (e : MI) (sl : Sl) (ds : List D) (sl' : Sl) : Prop where
  out : e sl = .ok ds sl'
structure Ea (e : MA) (sl : Sl) (rs : List Rv) (sl' : Sl) : Prop where
  out : e sl = .ok rs sl'
structure Ep (e : MP) (sl : Sl) (o : Option Int) (sl' : Sl) : Prop where
  out : e sl = .ok o sl'
structure Es (m : MS) (sl : Sl) (o : SOut) : Prop where
  out : m sl = o
/-- what a slot's reading gives -/
def rvAt (i : Nat) : Slot → Option Rv
  | .no => none
  | .val d => some (.dat d)
  | _ => some (.slot i)
theorem r_var {i : Nat} {sl : Sl} {s : Slot} {r : Rv} (h : sl[i]? = some s) (hr : rvAt i s = some r) : Ee (mVar i) sl r sl := by
  constructor
  unfold mVar
  rw [h]
  cases s <;> simp_all [rvAt]
theorem r_c {d : D} {sl : Sl} : Ee (mC d) sl (.dat d) sl := ⟨rfl⟩
section
variable {a b c : ME} {sl sl1 sl2 sl3 sl4 : Sl} {ra rb rc z r : Rv} {x y w d : D} {f g : D → D → Option Rv} {u : D → Option Rv}
theorem r_un (ha : Ee a sl ra sl1) (hx : ra.get sl1 = some x) (hf : u x = some z) : Ee (mUn u a) sl z sl1 := by
  constructor
  unfold mUn; rw [ha.out]; simp only [EOut.bind, hx, hf]
theorem r_bin (ha : Ee a sl ra sl1) (hb : Ee b sl1 rb sl2) (hx : ra.fix.get sl2 = some x) (hy : rb.fix.get sl2 = some y) (hf : f x y = some z) : Ee (mBin f a b) sl z sl2 := by
  constructor
  unfold mBin; rw [ha.out]; simp only [EOut.bind]; rw [hb.out]; simp only [hx, hy, hf]
/-- the middle one quiet, both compared -/
theorem r_chain {p q : Bool} (ha : Ee a sl ra sl1) (hb : Ee b sl1 rb sl2) (hx : ra.fix.get sl2 = some x) (hy : rb.fix.get sl2 = some y) (hf : f x y = some (.dat (.bl p))) (hc : Ee c sl2 rc sl2) (hz : rc.fix.get sl2 = some w) (hg : g y w = some (.dat (.bl q))) : Ee (mChain f g a b c) sl (.dat (.bl (p && q))) sl2 := by
  constructor
  unfold mChain; rw [ha.out]; simp only [EOut.bind]; rw [hb.out]; simp only [hx, hy, hf]
  cases p with
  | false => rfl
  | true => simp only; rw [hc.out]; simp only [hy, hz, hg, Bool.true_and]
theorem rp_none : Ep mpNone sl none sl := ⟨rfl⟩
theorem rp_some {i : Int} (ha : Ee a sl ra sl1) (hx : ra.get sl1 = some (.int i)) : Ep (mpSome a) sl (some i) sl1 := by
  constructor
  unfold mpSome; rw [ha.out]; simp only [hx]
theorem r_cut {lo hi : MP} {l h : Option Int} (ha : Ee a sl ra sl1) (hl : Ep lo sl1 l sl2) (hh : Ep hi sl2 h sl3) (hx : ra.fix.get sl3 = some x) (hf : opCut l h x = some z) : Ee (mCut a lo hi) sl z sl3 := by
  constructor
  unfold mCut; rw [ha.out]; simp only [EOut.bind]; rw [hl.out]; simp only; rw [hh.out]; simp only [hx, hf]
theorem ra_nil : Ea maNil sl [] sl := ⟨rfl⟩
theorem ra_cons {m : MA} {rs : List Rv} {r' : Rv} (ha : Ee a sl ra sl1) (hm : Ea m sl1 rs sl2) (hr : ra.fix = r') : Ea (maCons a m) sl (r' :: rs) sl2 := by
  constructor
  unfold maCons; rw [ha.out]; simp only; rw [hm.out]; simp only [hr]
theorem r_op {m : MA} {k : List D → Option Rv} {rs : List Rv} {ds : List D} (hm : Ea m sl rs sl1) (hg : getAll sl1 rs = some ds) (hf : k ds = some z) : Ee (mOp k m) sl z sl1 := by
  constructor
  unfold mOp; rw [hm.out]; simp only [hg, hf]
theorem r_meth {t : D → Bool} {k : D → List D → Option Rv} {m : MA} {rs : List Rv} {ds : List D} (ha : Ee a sl ra sl1) (hx : ra.fix.get sl1 = some x) (ht : t x = true) (hm : Ea m sl1 rs sl2) (hy : ra.fix.get sl2 = some y) (hg : getAll sl2 rs = some ds) (hf : k y ds = some z) : Ee (mMeth t k a m) sl z sl2 := by
  constructor
  unfold mMeth; rw [ha.out]; simp only [EOut.bind, hx, ht, if_true]; rw [hm.out]; simp only [hy, hg, hf]
theorem r_tup {m : MA} {rs : List Rv} {ds : List D} (hm : Ea m sl rs sl1) (hg : frzAll rs sl1 = some (ds, sl2)) (hl : ds.length ≤ sizeL) : Ee (mTup m) sl (.dat (.tup ds)) sl2 := by
  constructor
  unfold mTup; rw [hm.out]; simp only [hg, hl, if_true]
theorem r_lst {m : MA} {rs : List Rv} {ds : List D} (hm : Ea m sl rs sl1) (hg : frzAll rs sl1 = some (ds, sl2)) (hl : ds.length ≤ sizeL) : Ee (mLst m) sl (.new (.lst ds)) sl2 := by
  constructor
  unfold mLst; rw [hm.out]; simp only [hg, hl, if_true]
structure Ec (k : Fn) (xs : List Arg) (o : Res) : Prop where
  out : k xs = o
/-- what a call's result is -/
def resRv : Res → Option Rv
  | .ret d true => some (.new d)
  | .ret d false => some (.dat d)
  | _ => none
theorem r_call {m : MA} {rs : List Rv} {xs : List Arg} {k : Fn} {o : Res} (hm : Ea m sl rs sl1) (hg : toArgs rs sl1 = some (xs, sl2)) (hf : Ec k xs o) (ho : resRv o = some z) : Ee (mCall k m) sl z sl2 := by
  constructor
  unfold mCall; rw [hm.out]; simp only [hg, hf.out]
  cases o with
  | ret d fr => cases fr <;> (cases ho; rfl)
  | exc c => cases ho
  | bad => cases ho
theorem x_call {m : MA} {rs : List Rv} {xs : List Arg} {k : Fn} {c : Str} (hm : Ea m sl rs sl1) (hg : toArgs rs sl1 = some (xs, sl2)) (hf : k xs = .exc c) : mCall k m sl = .exc c sl2 := by
  unfold mCall; rw [hm.out]; simp only [hg, hf]; rfl
/-! tests -/
theorem rt_val {p : Bool} (ha : Ee a sl ra sl1) (hx : ra.get sl1 = some (.bl p)) : Et (mtVal a) sl p sl1 := by
  constructor
  unfold mtVal; rw [ha.out]; simp only [hx]
theorem rt_not {t : MT} {p : Bool} (h : Et t sl p sl1) : Et (mtNot t) sl (!p) sl1 := by
  constructor
  unfold mtNot; rw [h.out]; rfl
theorem rt_and {t v : MT} {p q : Bool} (h : Et t sl p sl1) (h2 : p = true → Et v sl1 q sl1) : Et (mtAnd t v) sl (p && q) sl1 := by
  constructor
  unfold mtAnd; rw [h.out]; simp only [TOut.bind]
  cases p with
  | false => rfl
  | true => simp only [if_true, Bool.true_and]; exact (h2 rfl).out
theorem rt_or {t v : MT} {p q : Bool} (h : Et t sl p sl1) (h2 : p = false → Et v sl1 q sl1) : Et (mtOr t v) sl (p || q) sl1 := by
  constructor
  unfold mtOr; rw [h.out]; simp only [TOut.bind]
  cases p with
  | true => rfl
  | false => simp only [Bool.false_or]; exact (h2 rfl).out
theorem rt_yes : Et mtYes sl true sl := ⟨rfl⟩
theorem r_if {t : MT} {p : Bool} {dA dB : D} (h : Et t sl p sl1) (hA : p = true → Ee a sl1 (.dat dA) sl1) (hB : p = false → Ee b sl1 (.dat dB) sl1) : Ee (mIf t a b) sl (.dat (if p = true then dA else dB)) sl1 := by
  constructor
  unfold mIf; rw [h.out]; simp only [TOut.ebind]
  cases p with
  | true => exact (hA rfl).out
  | false => exact (hB rfl).out
theorem r_ifT {t : MT} (h : Et t sl true sl1) (hA : Ee a sl1 r sl2) : Ee (mIf t a b) sl r sl2 := by
  constructor
  unfold mIf; rw [h.out]; exact hA.out
theorem r_ifF {t : MT} (h : Et t sl false sl1) (hB : Ee b sl1 r sl2) : Ee (mIf t a b) sl r sl2 := by
  constructor
  unfold mIf; rw [h.out]; exact hB.out
theorem r_and {p q : Bool} (h : Et (mtVal a) sl p sl1) (h2 : p = true → Ee b sl1 (.dat (.bl q)) sl1) : Ee (mAnd a b) sl (.dat (.bl (p && q))) sl1 := by
  constructor
  unfold mAnd; rw [h.out]; simp only [TOut.ebind]
  cases p with
  | false => rfl
  | true => simp only [if_true, Bool.true_and]; exact (h2 rfl).out
theorem r_or {p q : Bool} (h : Et (mtVal a) sl p sl1) (h2 : p = false → Ee b sl1 (.dat (.bl q)) sl1) : Ee (mOr a b) sl (.dat (.bl (p || q))) sl1 := by
  constructor
  unfold mOr; rw [h.out]; simp only [TOut.ebind]
  cases p with
  | true => rfl
  | false => simp only [Bool.false_or]; exact (h2 rfl).out
theorem r_not {p : Bool} (h : Et (mtVal a) sl p sl1) : Ee (mNot a) sl (.dat (.bl (!p))) sl1 := by
  constructor
  unfold mNot; rw [h.out]; rfl
/-! walks -/
theorem ri_seq {ds : List D} (ha : Ee a sl ra sl1) (hf : frz ra sl1 = some (d, sl2)) (hd : itemsOf d = some ds) : Ei (miSeq a) sl ds sl2 := by
  constructor
  unfold miSeq; rw [ha.out]; simp only [hf, hd]
theorem ri_of {m : MA} {k : List D → Option (List D)} {rs : List Rv} {ds es : List D} (hm : Ea m sl rs sl1) (hf : frzAll rs sl1 = some (ds, sl2)) (hd : k ds = some es) : Ei (miOf k m) sl es sl2 := by
  constructor
  unfold miOf; rw [hm.out]; simp only [hf, hd]
end
theorem lcLoop_ev {β : Type} {own : List Nat} {g : MG} {t : MT} {e : ME} {sl : Sl} {enc : β → D} {p : β → Bool} {q : β → D} {S : β → Sl} {S1 S2 : β → Sl} {R : β → Rv} : ∀ (xs : List β) (acc : List D), acc.length + xs.length ≤ sizeL →
    (∀ x ∈ xs, g (enc x) sl = some (S x)) → (∀ x ∈ xs, Et t (S x) (p x) (S x)) → (∀ x ∈ xs, p x = true → Ee e (S x) (R x) (S1 x)) → (∀ x ∈ xs, p x = true → frz (R x) (S1 x) = some (q x, S2 x)) → (∀ x, wipeSl own (S x) = sl) → (∀ x ∈ xs, p x = true → wipeSl own (S2 x) = sl) →
    lcLoop own g t e (xs.map enc) acc sl = .ok (.new (.lst (acc ++ (xs.filter p).map q))) sl
  | [], acc, _, _, _, _, _, _, _ => by simp [lcLoop]
  | x :: xs, acc, hz, hg, ht, he, hr, w0, w1 => by
    have m := List.mem_cons_self (a := x) (l := xs)
    have ih := fun acc hz => lcLoop_ev (own := own) (g := g) (t := t) (e := e) (sl := sl) (enc := enc) (p := p) (q := q) (S := S) (S1 := S1) (S2 := S2) (R := R) xs acc hz (fun y h => hg y (.tail _ h)) (fun y h => ht y (.tail _ h)) (fun y h => he y (.tail _ h)) (fun y h => hr y (.tail _ h)) w0 (fun y h => w1 y (.tail _ h))
    simp only [List.length_cons] at hz
    rw [List.map_cons, lcLoop]
    simp only [hg x m]
    rw [(ht x m).out]
    cases hp : p x with
    | true =>
      simp only
      rw [(he x m hp).out]
      simp only [hr x m hp]
      rw [if_pos (by omega), w1 x m hp, ih _ (by simp; omega), List.filter_cons, hp]
      simp
    | false =>
      simp only
      rw [w0, ih _ (by omega), List.filter_cons, hp]
      simp
theorem r_lc {β : Type} {own : List Nat} {src : MI} {g : MG} {t : MT} {e : ME} {sl sl1 sl2 sl3 : Sl} {enc : β → D} {xs : List β} {p : β → Bool} {q : β → D} {S S1 S2 : β → Sl} {R : β → Rv}
    (hs : Ei src sl (xs.map enc) sl1) (hw : wipeSl own sl1 = sl2) (hg : ∀ x ∈ xs, g (enc x) sl2 = some (S x)) (ht : ∀ x ∈ xs, Et t (S x) (p x) (S x)) (he : ∀ x ∈ xs, p x = true → Ee e (S x) (R x) (S1 x)) (hr : ∀ x ∈ xs, p x = true → frz (R x) (S1 x) = some (q x, S2 x))
    (w0 : ∀ x, wipeSl own (S x) = sl2) (w1 : ∀ x ∈ xs, p x = true → wipeSl own (S2 x) = sl2) (hb : backSl own sl1 sl2 = sl3) (hz : xs.length ≤ sizeL) : Ee (mLc own src g t e) sl (.new (.lst ((xs.filter p).map q))) sl3 := by
  constructor
  unfold mLc
  rw [hs.out]
  dsimp only
  rw [hw, lcLoop_ev xs [] (by simpa using hz) hg ht he hr w0 w1]
  simp [hb]
/-- without a test -/
theorem r_lcy {β : Type} {own : List Nat} {src : MI} {g : MG} {e : ME} {sl sl1 sl2 sl3 : Sl} {enc : β → D} {xs : List β} {q : β → D} {S S1 S2 : β → Sl} {R : β → Rv}
    (hs : Ei src sl (xs.map enc) sl1) (hw : wipeSl own sl1 = sl2) (hg : ∀ x ∈ xs, g (enc x) sl2 = some (S x)) (he : ∀ x ∈ xs, Ee e (S x) (R x) (S1 x)) (hr : ∀ x ∈ xs, frz (R x) (S1 x) = some (q x, S2 x))
    (w0 : ∀ x, wipeSl own (S x) = sl2) (w1 : ∀ x ∈ xs, wipeSl own (S2 x) = sl2) (hb : backSl own sl1 sl2 = sl3) (hz : xs.length ≤ sizeL) : Ee (mLc own src g mtYes e) sl (.new (.lst (xs.map q))) sl3 := by
  have := r_lc (t := mtYes) (p := fun _ => true) hs hw hg (fun _ _ => rt_yes) (fun x m _ => he x m) (fun x m _ => hr x m) w0 (fun x m _ => w1 x m) hb hz
  rwa [List.filter_eq_self.mpr (by intros; rfl)] at this
/-! statements -/
section
variable {a b : MS} {e : ME} {sl sl1 sl2 sl3 : Sl} {r : Rv} {o o1 o2 : SOut} {d : D} {fr : Bool} {t : MT}
theorem s_nil : Es msNil sl (.nx sl) := ⟨rfl⟩
theorem s_seq (ha : Es a sl (.nx sl1)) (hb : Es b sl1 o) : Es (msSeq a b) sl o := by
  constructor
  unfold msSeq; rw [ha.out]; exact hb.out
theorem s_seqR (ha : Es a sl (.rt d fr)) : Es (msSeq a b) sl (.rt d fr) := by
  constructor
  unfold msSeq; rw [ha.out]
theorem s_seqX {c : Str} (ha : Es a sl (.exc c sl1)) : Es (msSeq a b) sl (.exc c sl1) := by
  constructor
  unfold msSeq; rw [ha.out]
theorem s_expr (he : Ee e sl r sl1) : Es (msExpr e) sl (.nx sl1) := by
  constructor
  unfold msExpr; rw [he.out]; rfl
theorem s_exprX {c : Str} (he : e sl = .exc c sl1) : Es (msExpr e) sl (.exc c sl1) := by
  constructor
  unfold msExpr; rw [he]; rfl
theorem s_set {i : Nat} (he : Ee e sl r sl1) (hs : storeRv i r sl1 = some sl2) : Es (msSet i e) sl (.nx sl2) := by
  constructor
  unfold msSet; rw [he.out]; simp only [EOut.sbind, hs]
theorem s_setX {c : Str} {i : Nat} (he : e sl = .exc c sl1) : Es (msSet i e) sl (.exc c sl1) := by
  constructor
  unfold msSet; rw [he]; rfl
theorem s_unp {is : List Nat} (he : Ee e sl r sl1) (hf : frz r sl1 = some (d, sl2)) (hg : gTups is d sl2 = some sl3) : Es (msUnp is e) sl (.nx sl3) := by
  constructor
  unfold msUnp; rw [he.out]; simp only [EOut.sbind, hf, hg]
theorem s_mut {tt : D → Bool} {i : Nat} {f : D → List D → Option D} {m : MA} {d0 d1 d2 : D} {rs : List Rv} {ds : List D} (h0 : sl[i]? = some (.own d0)) (ht : tt d0 = true) (hm : Ea m sl rs sl1) (hf : frzAll rs sl1 = some (ds, sl2)) (h1 : sl2[i]? = some (.own d1)) (hg : f d1 ds = some d2) (hs : sl2.set i (.own d2) = sl3) : Es (msMut tt i f m) sl (.nx sl3) := by
  constructor
  unfold msMut; simp only [h0, ht, if_true]; rw [hm.out]; simp only [hf, h1, hg, hs]
theorem r_disp1 {a b : ME} {ra rb : Rv} {k v : D} {q : Ky} (ha : Ee a sl ra sl1) (hb : Ee b sl1 rb sl2) (hf : frzAll [ra.fix, rb.fix] sl2 = some ([k, v], sl3)) (hk : k.key? = some q) : Ee (mDisp1 a b) sl (.new (.dct [(q, v)])) sl3 := by
  constructor
  unfold mDisp1; rw [ha.out]; simp only [EOut.bind]; rw [hb.out]; simp only [hf, hk]
theorem s_ifT (ht : Et t sl true sl1) (ha : Es a sl1 o) : Es (msIf t a b) sl o := by
  constructor
  unfold msIf; rw [ht.out]; exact ha.out
theorem s_ifF (ht : Et t sl false sl1) (hb : Es b sl1 o) : Es (msIf t a b) sl o := by
  constructor
  unfold msIf; rw [ht.out]; exact hb.out
theorem s_if {p : Bool} (ht : Et t sl p sl1) (ha : p = true → Es a sl1 o1) (hb : p = false → Es b sl1 o2) : Es (msIf t a b) sl (if p = true then o1 else o2) := by
  constructor
  unfold msIf; rw [ht.out]; simp only [TOut.sbind]
  cases p with
  | true => exact (ha rfl).out
  | false => exact (hb rfl).out
/-- if t: return ..; the rest -/
theorem s_ifR {p : Bool} (ht : Et t sl p sl1) (ha : p = true → Es a sl1 (.rt d fr)) (hb : p = false → Es b sl1 o) : Es (msSeq (msIf t a msNil) b) sl (if p = true then .rt d fr else o) := by
  constructor
  unfold msSeq msIf; rw [ht.out]; simp only [TOut.sbind]
  cases p with
  | true => have := (ha rfl).out; simp [this]
  | false => exact (hb rfl).out
theorem s_ifX {p : Bool} {c : Str} (ht : Et t sl p sl1) (ha : p = true → Es a sl1 (.exc c sl2)) (hb : p = false → Es b sl1 o) : Es (msSeq (msIf t a msNil) b) sl (if p = true then .exc c sl2 else o) := by
  constructor
  unfold msSeq msIf; rw [ht.out]; simp only [TOut.sbind]
  cases p with
  | true => have := (ha rfl).out; simp [this]
  | false => exact (hb rfl).out
theorem s_par {i j : Nat} {a b : ME} {ra rb : Rv} {s u : Slot} (ha : Ee a sl ra sl1) (hb : Ee b sl1 rb sl2) (h1 : parSlot ra = some s) (h2 : parSlot rb = some u) (hs : (sl2.set i s).set j u = sl3) : Es (msPar i j a b) sl (.nx sl3) := by
  constructor
  unfold msPar; rw [ha.out]; simp only [EOut.sbind]; rw [hb.out]; simp only [h1, h2, hs]
/-- what is returned -/
def retOf : Rv → Sl → SOut
  | .dat d, _ => .rt d false
  | .new d, _ => .rt d true
  | .slot i, sl => (match sl[i]? with
    | some (.val d) => .rt d false
    | some (.own d) => .rt d true
    | _ => .bad)
theorem s_ret (he : Ee e sl r sl1) (ho : retOf r sl1 = o) : Es (msRet e) sl o := by
  constructor
  unfold msRet; rw [he.out]; rw [← ho]; cases r <;> rfl
theorem s_retAnd {a b : ME} {p q : Bool} (h : Et (mtVal a) sl p sl1) (h2 : p = true → Ee b sl1 (.dat (.bl q)) sl2) : Es (msRet (mAnd a b)) sl (.rt (.bl (p && q)) false) := by
  constructor
  unfold msRet mAnd; rw [h.out]; simp only [TOut.ebind]
  cases p with
  | false => rfl
  | true => simp only [if_true, Bool.true_and]; rw [(h2 rfl).out]; rfl
theorem s_retX {c : Str} (he : e sl = .exc c sl1) : Es (msRet e) sl (.exc c sl1) := by
  constructor
  unfold msRet; rw [he]; rfl
theorem s_retN : Es msRetN sl (.rt .non false) := ⟨rfl⟩
theorem s_raise {c : Str} : Es (msRaise c) sl (.exc c sl) := ⟨rfl⟩
/-- what a body's end is for the caller -/
def outRes : SOut → Res
  | .nx _ => .ret .non false
  | .rt d fr => .ret d fr
  | .exc c _ => .exc c
  | _ => .bad
theorem fn_ev {n : Nat} {m : MS} {as : List Arg} {sl : Sl} {o : SOut} {z : Res} (hs : as.map Slot.ofArg ++ List.replicate (n - as.length) .no = sl) (hm : Es m sl o) (hz : outRes o = z) : runFn n m as = z := by
  unfold runFn
  rw [hs, hm.out, ← hz]
  cases o <;> rfl
end
def turn (dead : List Nat) (g : MG) (b : MS) (x : D) (sl : Sl) : SOut := match g x sl with
  | none => .bad
  | some sl1 => (match b sl1 with
    | .nx s => .nx (wipeSl dead s)
    | .ct s => .nx (wipeSl dead s)
    | .bk s => .bk (wipeSl dead s)
    | o => o)
theorem turn_nx {dead : List Nat} {g : MG} {b : MS} {x : D} {sl sl1 sl2 sl3 : Sl} (hg : g x sl = some sl1) (hb : Es b sl1 (.nx sl2)) (hw : wipeSl dead sl2 = sl3) : turn dead g b x sl = .nx sl3 := by
  unfold turn; simp only [hg]; rw [hb.out]; simp only [hw]
theorem turn_rt {dead : List Nat} {g : MG} {b : MS} {x : D} {sl sl1 : Sl} {d : D} {fr : Bool} (hg : g x sl = some sl1) (hb : Es b sl1 (.rt d fr)) : turn dead g b x sl = .rt d fr := by
  unfold turn; simp only [hg]; rw [hb.out]
theorem turn_exc {dead : List Nat} {g : MG} {b : MS} {x : D} {sl sl1 sl2 : Sl} {c : Str} (hg : g x sl = some sl1) (hb : Es b sl1 (.exc c sl2)) : turn dead g b x sl = .exc c sl2 := by
  unfold turn; simp only [hg]; rw [hb.out]
theorem turn_bk {dead : List Nat} {g : MG} {b : MS} {x : D} {sl sl1 sl2 sl3 : Sl} (hg : g x sl = some sl1) (hb : Es b sl1 (.bk sl2)) (hw : wipeSl dead sl2 = sl3) : turn dead g b x sl = .bk sl3 := by
  unfold turn; simp only [hg]; rw [hb.out]; simp only [hw]
theorem forLoop_cons {dead : List Nat} {g : MG} {b : MS} {x : D} {xs : List D} {sl : Sl} : forLoop dead g b (x :: xs) sl = (match turn dead g b x sl with
  | .nx s => forLoop dead g b xs s
  | .bk s => .nx s
  | o => o) := by
  rw [forLoop]
  unfold turn
  cases g x sl with
  | none => rfl
  | some sl1 => dsimp only; cases b sl1 <;> rfl
/-- a check of each item -/
theorem for_chk {β : Type} {dead : List Nat} {g : MG} {b : MS} {sl : Sl} {enc : β → D} {ok : β → Bool} {o : SOut} (ho : (∃ d fr, o = .rt d fr) ∨ ∃ c s, o = .exc c s) : ∀ xs : List β, (∀ x ∈ xs, turn dead g b (enc x) sl = if ok x = true then .nx sl else o) →
    forLoop dead g b (xs.map enc) sl = if xs.all ok = true then .nx sl else o
  | [], _ => rfl
  | x :: xs, h => by
    rw [List.map_cons, forLoop_cons, h x (List.mem_cons_self ..), List.all_cons]
    by_cases q : ok x = true
    · rw [if_pos q, q, Bool.true_and]
      exact for_chk ho xs fun y hy => h y (List.mem_cons_of_mem _ hy)
    · rw [if_neg q]
      simp only [Bool.not_eq_true] at q
      rcases ho with ⟨d, fr, rfl⟩ | ⟨c, s, rfl⟩ <;> simp [q]
/-- a fold; P: what holds of the state -/
theorem for_fold {α β : Type} {dead : List Nat} {g : MG} {b : MS} {S : α → Sl} {enc : β → D} {step : α → β → α} (P : Nat → α → Prop) : ∀ (xs : List β) (n : Nat) (a : α), P n a → (∀ i x a, xs[i]? = some x → P (n + i) a → turn dead g b (enc x) (S a) = .nx (S (step a x)) ∧ P (n + i + 1) (step a x)) →
    forLoop dead g b (xs.map enc) (S a) = .nx (S (xs.foldl step a)) ∧ P (n + xs.length) (xs.foldl step a)
  | [], n, a, p, _ => ⟨rfl, p⟩
  | x :: xs, n, a, p, h => by
    obtain ⟨h1, h2⟩ := h 0 x a rfl p
    have ih := for_fold (dead := dead) (g := g) (b := b) (S := S) (enc := enc) (step := step) P xs (n + 1) (step a x) h2 fun i y a' e p' => by
      have e2 : n + 1 + i = n + (i + 1) := by omega
      rw [e2] at p' ⊢
      exact h (i + 1) y a' e p'
    rw [List.map_cons, forLoop_cons, h1, List.foldl_cons]
    have e3 : n + (x :: xs).length = n + 1 + xs.length := by simp; omega
    rw [e3]
    exact ih
/-- a fold, no invariant but membership -/
theorem for_fold0 {α β : Type} {dead : List Nat} {g : MG} {b : MS} {S : α → Sl} {enc : β → D} {step : α → β → α} : ∀ (xs : List β) (a : α), (∀ x ∈ xs, ∀ a, turn dead g b (enc x) (S a) = .nx (S (step a x))) → forLoop dead g b (xs.map enc) (S a) = .nx (S (xs.foldl step a))
  | [], a, _ => rfl
  | x :: xs, a, h => by
    rw [List.map_cons, forLoop_cons, h x (List.mem_cons_self ..), List.foldl_cons]
    exact for_fold0 xs _ fun y hy => h y (List.mem_cons_of_mem _ hy)
/-- a loop that keeps P, its state made on the way -/
theorem for_inv {α β : Type} {dead : List Nat} {g : MG} {b : MS} {S : α → Sl} {enc : β → D} (P : Nat → α → Prop) : ∀ (xs : List β) (n : Nat) (a : α), P n a → (∀ i x a, xs[i]? = some x → P (n + i) a → ∃ a', turn dead g b (enc x) (S a) = .nx (S a') ∧ P (n + i + 1) a') →
    ∃ a', forLoop dead g b (xs.map enc) (S a) = .nx (S a') ∧ P (n + xs.length) a'
  | [], n, a, p, _ => ⟨a, rfl, p⟩
  | x :: xs, n, a, p, h => by
    obtain ⟨a1, h1, h2⟩ := h 0 x a rfl p
    obtain ⟨a2, h3, h4⟩ := for_inv (dead := dead) (g := g) (b := b) (S := S) (enc := enc) P xs (n + 1) a1 h2 fun i y a' e p' => by
      have e2 : n + 1 + i = n + (i + 1) := by omega
      rw [e2] at p' ⊢
      exact h (i + 1) y a' e p'
    refine ⟨a2, ?_, ?_⟩
    · rw [List.map_cons, forLoop_cons, h1]
      exact h3
    · have e3 : n + (x :: xs).length = n + 1 + xs.length := by simp; omega
      rw [e3]
      exact h4
/-- a fold that may return -/
def exSt {α : Type} (P : α → Prop) (S : α → Sl) (o : SOut) : Except (D × Bool) α → Prop
  | .ok a => o = .nx (S a) ∧ P a
  | .error e => o = .rt e.1 e.2
theorem for_ex {α β : Type} {dead : List Nat} {g : MG} {b : MS} {S : α → Sl} {enc : β → D} {step : α → β → Except (D × Bool) α} (P : α → Prop) : ∀ (xs : List β) (a : α), P a → (∀ x ∈ xs, ∀ a, P a → exSt P S (turn dead g b (enc x) (S a)) (step a x)) → exSt P S (forLoop dead g b (xs.map enc) (S a)) (xs.foldlM step a)
  | [], a, p, _ => ⟨rfl, p⟩
  | x :: xs, a, p, h => by
    have h1 := h x (List.mem_cons_self ..) a p
    rw [List.map_cons, List.foldlM_cons, forLoop_cons]
    cases e : step a x with
    | error e' =>
      rw [e] at h1
      have h1 : turn dead g b (enc x) (S a) = .rt e'.1 e'.2 := h1
      rw [h1]
      rfl
    | ok a' =>
      rw [e] at h1
      obtain ⟨h1, p'⟩ := h1
      rw [h1]
      exact for_ex (dead := dead) (g := g) (b := b) (S := S) (enc := enc) (step := step) P xs a' p' fun y hy => h y (.tail _ hy)
/-- a loop that changes nothing -/
theorem for_same {β : Type} {dead : List Nat} {g : MG} {b : MS} {sl : Sl} {enc : β → D} : ∀ (xs : List β), (∀ x ∈ xs, turn dead g b (enc x) sl = .nx sl) → forLoop dead g b (xs.map enc) sl = .nx sl
  | [], _ => rfl
  | x :: xs, h => by
    rw [List.map_cons, forLoop_cons, h x (List.mem_cons_self ..)]
    exact for_same xs fun y hy => h y (List.mem_cons_of_mem _ hy)
theorem s_for {dead : List Nat} {src : MI} {g : MG} {b : MS} {sl sl1 sl2 : Sl} {ds : List D} {o : SOut} (hs : Ei src sl ds sl1) (hw : wipeSl dead sl1 = sl2) (hl : forLoop dead g b ds sl2 = o) : Es (msFor dead src g b) sl o := by
  constructor
  unfold msFor; rw [hs.out]; simp only [hw, hl]
def iterN {α : Type} (f : α → α) : Nat → α → α
  | 0, a => a
  | n + 1, a => iterN f n (f a)
section
variable {sl sl1 sl2 sl3 : Sl} {d : D} {rs : List Rv} {xs : List Arg} {ds : List D} {i : Nat}
theorem ta_nil : toArgs [] sl = some ([], sl) := rfl
theorem ta_dat (h : toArgs rs sl = some (xs, sl1)) : toArgs (.dat d :: rs) sl = some (.d d :: xs, sl1) := by
  simp only [toArgs, toArg, Option.bind_some, h, Option.map_some]
theorem ta_new (h : toArgs rs sl = some (xs, sl1)) : toArgs (.new d :: rs) sl = some (.d d :: xs, sl1) := by
  simp only [toArgs, toArg, Option.bind_some, h, Option.map_some]
theorem ta_own (h0 : sl[i]? = some (.own d)) (h1 : sl.set i (.val d) = sl1) (h : toArgs rs sl1 = some (xs, sl2)) : toArgs (.slot i :: rs) sl = some (.d d :: xs, sl2) := by
  simp only [toArgs, toArg, h0, Option.bind_some, h1, h, Option.map_some]
theorem ta_val (h0 : sl[i]? = some (.val d)) (h : toArgs rs sl = some (xs, sl2)) : toArgs (.slot i :: rs) sl = some (.d d :: xs, sl2) := by
  simp only [toArgs, toArg, h0, Option.bind_some, h, Option.map_some]
theorem ta_thk {r : Res} (h0 : sl[i]? = some (.thk r)) (h : toArgs rs sl = some (xs, sl2)) : toArgs (.slot i :: rs) sl = some (.t r :: xs, sl2) := by
  simp only [toArgs, toArg, h0, Option.bind_some, h, Option.map_some]
theorem ta_thks {r : List Res} (h0 : sl[i]? = some (.thks r)) (h : toArgs rs sl = some (xs, sl2)) : toArgs (.slot i :: rs) sl = some (.ts r :: xs, sl2) := by
  simp only [toArgs, toArg, h0, Option.bind_some, h, Option.map_some]
theorem fz_dat : frz (.dat d) sl = some (d, sl) := rfl
theorem fz_new : frz (.new d) sl = some (d, sl) := rfl
theorem gd_dat : Rv.get sl (.dat d) = some d := rfl
theorem gd_new : Rv.get sl (.new d) = some d := rfl
theorem gd_own (h0 : sl[i]? = some (.own d)) : Rv.get sl (.slot i) = some d := by simp only [Rv.get, h0, Option.bind_some, Slot.get]
theorem gd_val (h0 : sl[i]? = some (.val d)) : Rv.get sl (.slot i) = some d := by simp only [Rv.get, h0, Option.bind_some, Slot.get]
theorem gf_dat : Rv.get sl (Rv.fix (.dat d)) = some d := rfl
theorem gf_new : Rv.get sl (Rv.fix (.new d)) = some d := rfl
theorem gf_own (h0 : sl[i]? = some (.own d)) : Rv.get sl (Rv.fix (.slot i)) = some d := gd_own h0
theorem gf_val (h0 : sl[i]? = some (.val d)) : Rv.get sl (Rv.fix (.slot i)) = some d := gd_val h0
theorem fz_fixd : frz (Rv.dat d).fix sl = some (d, sl) := rfl
theorem fz_fixn : frz (Rv.new d).fix sl = some (d, sl) := rfl
theorem fz_val (h0 : sl[i]? = some (.val d)) : frz (.slot i) sl = some (d, sl) := by simp only [frz, h0]
theorem fz_own (h0 : sl[i]? = some (.own d)) (h1 : sl.set i (.val d) = sl1) : frz (.slot i) sl = some (d, sl1) := by simp only [frz, h0, h1]
theorem fa_nil : frzAll [] sl = some ([], sl) := rfl
theorem fa_cons {r : Rv} (h : frz r sl = some (d, sl1)) (h2 : frzAll rs sl1 = some (ds, sl2)) : frzAll (r :: rs) sl = some (d :: ds, sl2) := by
  simp only [frzAll, h, Option.bind_some, h2, Option.map_some]
theorem ga_nil : getAll sl [] = some [] := rfl
theorem ga_cons {r : Rv} (h : r.get sl = some d) (h2 : getAll sl rs = some ds) : getAll sl (r :: rs) = some (d :: ds) := by
  simp only [getAll, h, Option.bind_some, h2, Option.map_some]
theorem fx_dat : (Rv.dat d).fix = .dat d := rfl
theorem fx_new : (Rv.new d).fix = .dat d := rfl
theorem fx_slot : (Rv.slot i).fix = .slot i := rfl
theorem rt_dat : retOf (.dat d) sl = .rt d false := rfl
theorem rt_new : retOf (.new d) sl = .rt d true := rfl
theorem rt_own (h0 : sl[i]? = some (.own d)) : retOf (.slot i) sl = .rt d true := by simp only [retOf, h0]
theorem rt_sval (h0 : sl[i]? = some (.val d)) : retOf (.slot i) sl = .rt d false := by simp only [retOf, h0]
theorem gt_tup {is : List Nat} {sl' : Sl} (hd : d = .tup ds) (h : gSets is ds sl = some sl') : gTups is d sl = some sl' := by rw [hd]; exact h
theorem gs_nil : gSets [] [] sl = some sl := rfl
theorem gs_cons {is : List Nat} (h : sl.set i (.val d) = sl1) (h2 : gSets is ds sl1 = some sl2) : gSets (i :: is) (d :: ds) sl = some sl2 := by rw [gSets, h, h2]
theorem rv_dat : resRv (.ret d false) = some (.dat d) := rfl
theorem rv_new : resRv (.ret d true) = some (.new d) := rfl
end
section
variable {a b : MS} {e : ME} {sl sl1 sl2 sl3 : Sl} {r : Rv} {o o1 o2 : SOut} {d : D} {fr : Bool} {t : MT}
theorem q_set {i : Nat} (h : Es (msSet i e) sl (.nx sl1)) (hb : Es b sl1 o) : Es (msSeq (msSet i e) b) sl o := s_seq h hb
theorem q_expr (h : Es (msExpr e) sl (.nx sl1)) (hb : Es b sl1 o) : Es (msSeq (msExpr e) b) sl o := s_seq h hb
theorem q_unp {is : List Nat} (h : Es (msUnp is e) sl (.nx sl1)) (hb : Es b sl1 o) : Es (msSeq (msUnp is e) b) sl o := s_seq h hb
theorem q_mut {tt : D → Bool} {i : Nat} {f : D → List D → Option D} {m : MA} (h : Es (msMut tt i f m) sl (.nx sl1)) (hb : Es b sl1 o) : Es (msSeq (msMut tt i f m) b) sl o := s_seq h hb
theorem q_par {i j : Nat} {x y : ME} (h : Es (msPar i j x y) sl (.nx sl1)) (hb : Es b sl1 o) : Es (msSeq (msPar i j x y) b) sl o := s_seq h hb
/-- if t: return e -/
theorem q_ifR {p : Bool} (ht : Et t sl p sl1) (ha : p = true → Es (msRet e) sl1 (.rt d fr)) (hb : p = false → Es b sl1 o) : Es (msSeq (msIf t (msRet e) msNil) b) sl (if p = true then .rt d fr else o) := s_ifR ht ha hb
theorem q_ifX {p : Bool} {c : Str} (ht : Et t sl p sl1) (hb : p = false → Es b sl1 o) : Es (msSeq (msIf t (msRaise c) msNil) b) sl (if p = true then .exc c sl1 else o) := s_ifX ht (fun _ => s_raise) hb
theorem q_if1R {p : Bool} (ht : Et t sl p sl1) (ha : p = true → Es (msRet e) sl1 (.rt d fr)) : Es (msIf t (msRet e) msNil) sl (if p = true then .rt d fr else .nx sl1) := s_if ht ha fun _ => s_nil
theorem q_if1X {p : Bool} {c : Str} (ht : Et t sl p sl1) : Es (msIf t (msRaise c) msNil) sl (if p = true then .exc c sl1 else .nx sl1) := s_if ht (fun _ => s_raise) fun _ => s_nil
/-- a checking loop first -/
theorem s_seqC {p : Bool} (ha : Es a sl (if p = true then .nx sl1 else .rt d fr)) (hb : p = true → Es b sl1 o) : Es (msSeq a b) sl (if p = true then o else .rt d fr) := by
  constructor
  unfold msSeq
  rw [ha.out]
  cases p with
  | true => exact (hb rfl).out
  | false => rfl
end
theorem turn_chk {dead : List Nat} {g : MG} {b : MS} {x : D} {sl sl1 sl2 : Sl} {d : D} {fr : Bool} {o : SOut} {ok : Bool} (hg : g x sl = some sl1) (hb : Es b sl1 o) (ho : o = if ok = true then .nx sl2 else .rt d fr) (hw : wipeSl dead sl2 = sl) : turn dead g b x sl = if ok = true then .nx sl else .rt d fr := by
  unfold turn; simp only [hg]; rw [hb.out, ho]
  cases ok with
  | true => simp [hw]
  | false => rfl
theorem turn_ev {dead : List Nat} {g : MG} {b : MS} {x : D} {sl sl1 sl2 sl3 : Sl} {o : SOut} (hg : g x sl = some sl1) (hb : Es b sl1 o) (ho : o = .nx sl2) (hw : wipeSl dead sl2 = sl3) : turn dead g b x sl = .nx sl3 :=
  turn_nx hg (ho ▸ hb) hw
theorem s_forC {β : Type} {dead : List Nat} {src : MI} {g : MG} {b : MS} {sl sl1 sl2 : Sl} {xs : List β} {enc : β → D} {ok : β → Bool} {d : D} {fr : Bool} (hs : Ei src sl (xs.map enc) sl1) (hw : wipeSl dead sl1 = sl2) (hl : ∀ x ∈ xs, turn dead g b (enc x) sl2 = if ok x = true then .nx sl2 else .rt d fr) : Es (msFor dead src g b) sl (if xs.all ok = true then .nx sl2 else .rt d fr) :=
  s_for hs hw (for_chk (.inl ⟨d, fr, rfl⟩) xs hl)
/-- a while loop, by a step and a measure -/
theorem while_ev {α : Type} {dead : List Nat} {t : MT} {b : MS} {S : α → Sl} {go : α → Bool} {step : α → α} {μ : α → Nat} (P : α → Prop) (ht : ∀ a, P a → Et t (S a) (go a) (S a)) (hb : ∀ a, P a → go a = true → ∃ s, Es b (S a) (.nx s) ∧ wipeSl dead s = S (step a)) (hp : ∀ a, P a → go a = true → P (step a) ∧ μ (step a) < μ a) : ∀ (n : Nat) (a : α), P a → μ a < n →
    ∃ k : Nat, whileLoop dead t b n (S a) = .nx (S (iterN step k a)) ∧ P (iterN step k a) ∧ go (iterN step k a) = false ∧ ∀ j < k, go (iterN step j a) = true
  | 0, a, p, h => by omega
  | n + 1, a, p, h => by
    rw [whileLoop, (ht a p).out]
    cases hg : go a with
    | false => exact ⟨0, rfl, p, hg, by omega⟩
    | true =>
      obtain ⟨s, h1, h2⟩ := hb a p hg
      obtain ⟨p2, m2⟩ := hp a p hg
      obtain ⟨k, h3, h4, h5, h6⟩ := while_ev P ht hb hp n (step a) p2 (by omega)
      refine ⟨k + 1, ?_, h4, h5, ?_⟩
      · simp only; rw [h1.out]; simp only [h2]; exact h3
      · intro j hj
        cases j with
        | zero => exact hg
        | succ j => exact h6 j (by omega)
/-- one turn of a while loop -/
def wturn (dead : List Nat) (t : MT) (b : MS) (sl : Sl) : SOut := match t sl with
  | .ok true sl1 => (match b sl1 with
    | .nx sl2 => .ct (wipeSl dead sl2)
    | .ct sl2 => .ct (wipeSl dead sl2)
    | .bk sl2 => .nx (wipeSl dead sl2)
    | o => o)
  | .ok false sl1 => .nx sl1
  | .exc c sl1 => .exc c sl1
  | .bad => .bad
theorem while_succ {dead : List Nat} {t : MT} {b : MS} {n : Nat} {sl : Sl} : whileLoop dead t b (n + 1) sl = (match wturn dead t b sl with
  | .ct s => whileLoop dead t b n s
  | o => o) := by
  rw [whileLoop]
  unfold wturn
  cases t sl with
  | ok p s =>
    cases p with
    | true => simp only; cases b s <;> rfl
    | false => rfl
  | exc c s => rfl
  | bad => rfl
theorem wturn_ct {dead : List Nat} {t : MT} {b : MS} {sl sl1 sl2 sl3 : Sl} (ht : Et t sl true sl1) (hb : Es b sl1 (.nx sl2)) (hw : wipeSl dead sl2 = sl3) : wturn dead t b sl = .ct sl3 := by
  unfold wturn; rw [ht.out]; simp only; rw [hb.out]; simp only [hw]
theorem wturn_rt {dead : List Nat} {t : MT} {b : MS} {sl sl1 : Sl} {d : D} {fr : Bool} (ht : Et t sl true sl1) (hb : Es b sl1 (.rt d fr)) : wturn dead t b sl = .rt d fr := by
  unfold wturn; rw [ht.out]; simp only; rw [hb.out]
theorem wturn_nx {dead : List Nat} {t : MT} {b : MS} {sl sl1 : Sl} (ht : Et t sl false sl1) : wturn dead t b sl = .nx sl1 := by
  unfold wturn; rw [ht.out]
theorem ex_nx {dead : List Nat} {b : MS} {sl sl1 sl2 : Sl} {o : SOut} (hb : Es b sl o) (ho : o = .nx sl1) (hw : wipeSl dead sl1 = sl2) : ∃ s, Es b sl (.nx s) ∧ wipeSl dead s = sl2 := ⟨sl1, ho ▸ hb, hw⟩
theorem s_while {dead : List Nat} {n : Nat} {t : MT} {b : MS} {sl sl1 : Sl} {o : SOut} (hw : wipeSl dead sl = sl1) (hl : whileLoop dead t b n sl1 = o) : Es (msWhile dead n t b) sl o := by
  constructor
  unfold msWhile; rw [hw, hl]
end DL
end
section
set_option linter.all false
set_option maxRecDepth 100000
set_option autoImplicit false
/-! plain evaluation: what the operations do on typed data -/
namespace DL
open PySem
theorem laids_ints (l : List Int) : D.laids (l.map D.int) = true := by
  induction l with
  | nil => rfl
  | cons a r ih => simp [D.laids, D.laid, ih]
theorem deps_ints (l : List Int) : D.deps (l.map D.int) = 0 := by
  induction l with
  | nil => rfl
  | cons a r ih => simp [D.deps, D.dep, ih]
theorem laids_map {α : Type} {f : α → D} {l : List α} (h : ∀ x ∈ l, (f x).laid = true) : D.laids (l.map f) = true := by
  induction l with
  | nil => rfl
  | cons a r ih =>
    simp only [List.map_cons, D.laids, Bool.and_eq_true]
    exact ⟨h a (List.mem_cons_self ..), ih fun x m => h x (.tail _ m)⟩
theorem deps_map {α : Type} {f : α → D} {l : List α} {n : Nat} (h : ∀ x ∈ l, (f x).dep ≤ n) : D.deps (l.map f) ≤ n := by
  induction l with
  | nil => exact Nat.zero_le _
  | cons a r ih =>
    simp only [List.map_cons, D.deps]
    have h1 := h a (List.mem_cons_self ..)
    have h2 := ih fun x m => h x (.tail _ m)
    omega
theorem eqvs_map {α : Type} [DecidableEq α] {f : α → D} (hf : ∀ x y, D.eqv (f x) (f y) = decide (x = y)) : ∀ a b : List α, D.eqvs (a.map f) (b.map f) = decide (a = b)
  | [], [] => rfl
  | [], _ :: _ => rfl
  | _ :: _, [] => rfl
  | a :: r, b :: s => by
    simp only [List.map_cons, D.eqvs, hf, eqvs_map hf r s, List.cons.injEq, Bool.decide_and]
theorem eqv_str (x y : Str) : D.eqv (.str x) (.str y) = decide (x = y) := rfl
theorem eqv_int (x y : Int) : D.eqv (.int x) (.int y) = decide (x = y) := rfl
/-- typed data under == : laid, depth, equality -/
structure EqT {α : Type} [DecidableEq α] (f : α → D) (ok : α → Prop) (n : Nat) : Prop where
  laid : ∀ x, ok x → (f x).laid = true
  dep : ∀ x, (f x).dep ≤ n
  eqv : ∀ x y, D.eqv (f x) (f y) = decide (x = y)
  norm : ∀ x, (f x).norm = f x
theorem eqT_int : EqT D.int (fun _ => True) 0 := ⟨fun _ _ => rfl, fun _ => Nat.le_refl _, eqv_int, fun _ => rfl⟩
theorem eqT_str : EqT D.str (fun x => okStr x = true) 0 := ⟨fun _ h => h, fun _ => Nat.le_refl _, eqv_str, fun _ => rfl⟩
theorem eqT_bl : EqT D.bl (fun _ => True) 0 := ⟨fun _ _ => rfl, fun _ => Nat.le_refl _, fun x y => by cases x <;> cases y <;> rfl, fun _ => rfl⟩
section
variable {α : Type} [DecidableEq α] {f : α → D} {ok : α → Prop} {n : Nat}
theorem EqT.lst (h : EqT f ok n) : EqT (fun l : List α => D.lst (l.map f)) (fun l => ∀ x ∈ l, ok x) (n + 1) :=
  ⟨fun l hl => laids_map fun x m => h.laid x (hl x m), fun l => by show D.deps _ + 1 ≤ _; have := deps_map (n := n) fun x (_ : x ∈ l) => h.dep x; omega, fun a b => by show D.eqvs _ _ = _; exact eqvs_map h.eqv a b, fun _ => rfl⟩
theorem EqT.tup (h : EqT f ok n) : EqT (fun l : List α => D.tup (l.map f)) (fun l => ∀ x ∈ l, ok x) (n + 1) :=
  ⟨fun l hl => laids_map fun x m => h.laid x (hl x m), fun l => by show D.deps _ + 1 ≤ _; have := deps_map (n := n) fun x (_ : x ∈ l) => h.dep x; omega, fun a b => by show D.eqvs _ _ = _; exact eqvs_map h.eqv a b, fun _ => rfl⟩
theorem EqT.pair {β : Type} [DecidableEq β] {g : β → D} {ok' : β → Prop} {m : Nat} (h : EqT f ok n) (h' : EqT g ok' m) : EqT (fun p : α × β => D.tup [f p.1, g p.2]) (fun p => ok p.1 ∧ ok' p.2) (max n m + 1) :=
  ⟨fun p hp => by show D.laids _ = true; simp [D.laids, h.laid _ hp.1, h'.laid _ hp.2],
   fun p => by show D.deps _ + 1 ≤ _; have := h.dep p.1; have := h'.dep p.2; simp only [D.deps]; omega,
   fun a b => by show D.eqvs _ _ = _; simp only [D.eqvs, h.eqv, h'.eqv, Bool.and_true]; rw [← Bool.decide_and]; exact decide_eq_decide.mpr Prod.ext_iff.symm, fun _ => rfl⟩
theorem eq0_of (h : EqT f ok n) {x y : α} (hx : ok x) (hy : ok y) (hn : n ≤ 64) : opEq0 (f x) (f y) = some (decide (x = y)) := by
  unfold opEq0
  rw [if_pos ⟨h.laid x hx, h.laid y hy, by have := h.dep x; omega⟩, h.eqv]
theorem op_eq (h : EqT f ok n) {x y : α} (hx : ok x) (hy : ok y) (hn : n ≤ 64) : opEq (f x) (f y) = some (.dat (.bl (decide (x = y)))) := by
  unfold opEq; rw [h.norm, h.norm, eq0_of h hx hy hn]; rfl
theorem op_ne (h : EqT f ok n) {x y : α} (hx : ok x) (hy : ok y) (hn : n ≤ 64) : opNe (f x) (f y) = some (.dat (.bl (!decide (x = y)))) := by
  unfold opNe; rw [h.norm, h.norm, eq0_of h hx hy hn]; rfl
theorem any_eqv (h : EqT f ok n) (l : List α) (x : α) : (l.map f).any (fun z => D.eqv z (f x)) = decide (x ∈ l) := by
  induction l with
  | nil => rfl
  | cons a r ih =>
    simp only [List.map_cons, List.any_cons, h.eqv, ih, List.mem_cons, Bool.decide_or]
    congr 1
    exact decide_eq_decide.mpr eq_comm
theorem in0_lst (h : EqT f ok n) {l : List α} {x : α} (hx : ok x) (hl : ∀ y ∈ l, ok y) (hn : n ≤ 60) : opIn0 (f x) (.lst (l.map f)) = some (decide (x ∈ l)) := by
  simp only [opIn0]
  rw [if_pos ⟨h.laid x hx, laids_map fun y m => h.laid y (hl y m), by have := h.dep x; omega, by have := deps_map (n := n) fun x (_ : x ∈ l) => h.dep x; omega⟩, any_eqv h]
theorem op_in (h : EqT f ok n) {l : List α} {x : α} (hx : ok x) (hl : ∀ y ∈ l, ok y) (hn : n ≤ 60) : opIn (f x) (.lst (l.map f)) = some (.dat (.bl (decide (x ∈ l)))) := by
  unfold opIn; rw [in0_lst h hx hl hn]; rfl
theorem op_notIn (h : EqT f ok n) {l : List α} {x : α} (hx : ok x) (hl : ∀ y ∈ l, ok y) (hn : n ≤ 60) : opNotIn (f x) (.lst (l.map f)) = some (.dat (.bl (!decide (x ∈ l)))) := by
  unfold opNotIn; rw [in0_lst h hx hl hn]; rfl
theorem findD_of (h : EqT f ok n) (x : α) : ∀ (l : List α) (i : Nat), findD (f x) (l.map f) i = (l.findIdx? fun y => decide (y = x)).map (· + i)
  | [], _ => rfl
  | a :: r, i => by
    rw [List.map_cons, findD, h.eqv, List.findIdx?_cons]
    by_cases e : a = x
    · simp [e]
    · simp only [e, decide_false, Bool.false_eq_true, if_false, findD_of h x r (i + 1), Option.map_map]
      congr 1
      funext k
      simp only [Function.comp]
      omega
theorem op_index (h : EqT f ok n) {l : List α} {x : α} {i : Nat} (hx : ok x) (hl : ∀ y ∈ l, ok y) (hn : n ≤ 60) (hi : (l.findIdx? fun y => decide (y = x)) = some i) : opIndex (.lst (l.map f)) [f x] = some (.dat (.int i)) := by
  simp only [opIndex]
  rw [if_pos ⟨h.laid x hx, laids_map fun y m => h.laid y (hl y m), by have := h.dep x; omega, by have := deps_map (n := n) fun x (_ : x ∈ l) => h.dep x; omega⟩, findD_of h, hi]
  rfl
end
/-! indices -/
theorem atD_nat {α : Type} {xs : List α} {i : Nat} {x : α} (h : xs[i]? = some x) : atD xs (i : Int) = some x := by
  unfold atD ixOf
  have : i < xs.length := (List.getElem?_eq_some_iff.mp h).1
  rw [if_pos (by omega), if_pos (by omega)]
  simpa using h
theorem atD_int {α : Type} {xs : List α} {i : Int} {x : α} (h0 : 0 ≤ i) (h : xs[i.toNat]? = some x) : atD xs i = some x := by
  have := atD_nat h
  rwa [Int.toNat_of_nonneg h0] at this
theorem atD_last {α : Type} {xs : List α} {x : α} (h : xs.getLast? = some x) : atD xs (-1) = some x := by
  unfold atD ixOf
  have h1 : xs ≠ [] := by intro e; rw [e] at h; cases h
  have h2 : 0 < xs.length := List.length_pos_iff.mpr h1
  rw [if_neg (by omega), if_pos (by omega)]
  show xs[((-1 : Int) + xs.length).toNat]? = some x
  rw [← h, List.getLast?_eq_getElem?]
  congr 1
  omega
theorem op_ixl {ds : List D} {i : Int} {x : D} (h : atD ds i = some x) : opIx (.lst ds) (.int i) = some (.dat x) := by
  simp only [opIx, h, Option.map_some]
theorem op_ixt {ds : List D} {i : Int} {x : D} (h : atD ds i = some x) : opIx (.tup ds) (.int i) = some (.dat x) := by
  simp only [opIx, h, Option.map_some]
theorem op_ixt0 {a : D} {r : List D} : opIx (.tup (a :: r)) (.int 0) = some (.dat a) := op_ixt (atD_nat (i := 0) rfl)
theorem op_ixt1 {a b : D} {r : List D} : opIx (.tup (a :: b :: r)) (.int 1) = some (.dat b) := op_ixt (atD_nat (i := 1) rfl)
theorem op_ixt2 {a b c : D} {r : List D} : opIx (.tup (a :: b :: c :: r)) (.int 2) = some (.dat c) := op_ixt (atD_nat (i := 2) rfl)
theorem op_ixt3 {a b c d : D} {r : List D} : opIx (.tup (a :: b :: c :: d :: r)) (.int 3) = some (.dat d) := op_ixt (atD_nat (i := 3) rfl)
theorem op_ixl0 {a : D} {r : List D} : opIx (.lst (a :: r)) (.int 0) = some (.dat a) := op_ixl (atD_nat (i := 0) rfl)
theorem op_ixl1 {a b : D} {r : List D} : opIx (.lst (a :: b :: r)) (.int 1) = some (.dat b) := op_ixl (atD_nat (i := 1) rfl)
theorem isi_eq {T : String} {d : D} {b : Bool} (h : isTy T d = some b) : ((isTy T d).map fun k => Rv.dat (.bl k)) = some (.dat (.bl b)) := by rw [h]; rfl
/-! numbers -/
theorem op_addI {i j : Int} : opAdd (.int i) (.int j) = some (.dat (.int (i + j))) := rfl
theorem op_subI {i j : Int} : opSub (.int i) (.int j) = some (.dat (.int (i - j))) := rfl
theorem op_negI {i : Int} : opNeg (.int i) = some (.dat (.int (-i))) := rfl
theorem op_eqI {i j : Int} : opEq (.int i) (.int j) = some (.dat (.bl (decide (i = j)))) := rfl
theorem op_neI {i j : Int} : opNe (.int i) (.int j) = some (.dat (.bl (!decide (i = j)))) := rfl
theorem op_ltI {i j : Int} : opLt (.int i) (.int j) = some (.dat (.bl (decide (i < j)))) := rfl
theorem op_leI {i j : Int} : opLe (.int i) (.int j) = some (.dat (.bl (decide (i ≤ j)))) := rfl
theorem op_gtI {i j : Int} : opGt (.int i) (.int j) = some (.dat (.bl (decide (j < i)))) := rfl
theorem op_geI {i j : Int} : opGe (.int i) (.int j) = some (.dat (.bl (decide (j ≤ i)))) := rfl
theorem op_eqS {x y : Str} (hx : okStr x = true) (hy : okStr y = true) : opEq (.str x) (.str y) = some (.dat (.bl (decide (x = y)))) := op_eq eqT_str hx hy (by decide)
theorem op_neS {x y : Str} (hx : okStr x = true) (hy : okStr y = true) : opNe (.str x) (.str y) = some (.dat (.bl (!decide (x = y)))) := op_ne eqT_str hx hy (by decide)
theorem op_ltS {x y : Str} : opLt (.str x) (.str y) = some (.dat (.bl (strLt x y))) := rfl
theorem op_mod {i j : Int} (h : 0 < j) : opMod (.int i) (.int j) = some (.dat (.int (i % j))) := by simp only [opMod, if_pos h]
theorem okMul_r {i j : Int} (h : -(2 ^ 64) < j ∧ j < 2 ^ 64) : okMul i j = true := by
  unfold okMul
  rw [Bool.or_eq_true]
  exact .inl (decide_eq_true (.inr h))
theorem okMul_l {i j : Int} (h : -(2 ^ 64) < i ∧ i < 2 ^ 64) : okMul i j = true := by
  unfold okMul
  rw [Bool.or_eq_true]
  exact .inl (decide_eq_true (.inl h))
theorem op_mulr {i j : Int} (h : -(2 ^ 64) < j ∧ j < 2 ^ 64) : opMul (.int i) (.int j) = some (.dat (.int (i * j))) := by
  unfold opMul
  exact if_pos (okMul_r h)
theorem op_mull {i j : Int} (h : -(2 ^ 64) < i ∧ i < 2 ^ 64) : opMul (.int i) (.int j) = some (.dat (.int (i * j))) := by
  unfold opMul
  exact if_pos (okMul_l h)
theorem log_small {r : Nat} (h : r < 2 ^ 64) : r.log2 < 9000 := by
  by_cases z : r = 0
  · rw [z]; decide
  · have h2 : r.log2 < 64 := (Nat.log2_lt z).mpr h
    omega
theorem op_fdiv {i j : Int} (h : 0 < j) (h2 : j < 2 ^ 64) : opFdiv (.int i) (.int j) = some (.dat (.int (i / j))) := by
  unfold opFdiv
  exact if_pos ⟨h, log_small (by omega)⟩
/-! list sizes -/
theorem op_addL {a b : List D} (h : a.length + b.length ≤ sizeL) : opAdd (.lst a) (.lst b) = some (.new (.lst (a ++ b))) := by simp only [opAdd, if_pos h]
theorem op_addT {a b : List D} (h : a.length + b.length ≤ sizeL) : opAdd (.tup a) (.tup b) = some (.dat (.tup (a ++ b))) := by simp only [opAdd, if_pos h]
theorem mm_app {a : List D} {d : D} (h : a.length < sizeL) : mmAppend (.lst a) [d] = some (.lst (a ++ [d])) := by simp only [mmAppend, if_pos h]
theorem mm_ext {a b : List D} (h : a.length + b.length ≤ sizeL) : mmExtend (.lst a) [.lst b] = some (.lst (a ++ b)) := by simp only [mmExtend, if_pos h]
/-! all, any, sum -/
theorem bools_map {α : Type} (f : α → Bool) : ∀ l : List α, bools? (l.map fun x => .bl (f x)) = some (l.map f)
  | [] => rfl
  | a :: r => by simp [bools?, bools_map f r]
theorem ints_map {α : Type} (f : α → Int) : ∀ l : List α, ints? (l.map fun x => .int (f x)) = some (l.map f)
  | [] => rfl
  | a :: r => by simp [ints?, ints_map f r]
theorem strs_map {α : Type} (f : α → Str) : ∀ l : List α, strs? (l.map fun x => .str (f x)) = some (l.map f)
  | [] => rfl
  | a :: r => by simp [strs?, strs_map f r]
theorem op_all {α : Type} {f : α → Bool} {l : List α} : opAll [.lst (l.map fun x => .bl (f x))] = some (.dat (.bl (l.all f))) := by
  unfold opAll; simp [bools_map, List.all_map]
theorem op_any {α : Type} {f : α → Bool} {l : List α} : opAny [.lst (l.map fun x => .bl (f x))] = some (.dat (.bl (l.any f))) := by
  unfold opAny; simp [bools_map, List.any_map]
theorem op_sum {α : Type} {f : α → Int} {l : List α} : opSum [.lst (l.map fun x => .int (f x))] = some (.dat (.int (l.map f).sum)) := by
  unfold opSum; simp [ints_map]
theorem op_lenL {ds : List D} : opLen [.lst ds] = some (.dat (.int ds.length)) := rfl
theorem op_lenT {ds : List D} : opLen [.tup ds] = some (.dat (.int ds.length)) := rfl
theorem op_lenD {kvs : List (Ky × D)} : opLen [.dct kvs] = some (.dat (.int kvs.length)) := rfl
theorem op_tupL {ds : List D} : opTuple [.lst ds] = some (.dat (.tup ds)) := rfl
theorem op_listT {ds : List D} : opList [.tup ds] = some (.new (.lst ds)) := rfl
theorem op_listL {ds : List D} : opList [.lst ds] = some (.new (.lst ds)) := rfl
/-! walks -/
theorem enumFrom_eq {α : Type} (f : α → D) : ∀ (l : List α) (i : Nat), enumFrom i (l.map f) = (l.zipIdx i).map fun p => .tup [.int (p.2 : Nat), f p.1]
  | [], _ => rfl
  | a :: r, i => by simp [enumFrom, enumFrom_eq f r (i + 1)]
theorem w_enum {α : Type} {f : α → D} {l : List α} : enumOf [.lst (l.map f)] = some (l.zipIdx.map fun p => .tup [.int (p.2 : Nat), f p.1]) := by
  simp only [enumOf, enumFrom_eq]
theorem w_range {j : Int} (h : -(2 ^ 62) ≤ j ∧ j < 2 ^ 62) : rangeOf [.int j] = some ((List.range j.toNat).map fun i => .int (i : Nat)) := by
  simp only [rangeOf, if_pos h]
theorem w_zip {α β : Type} {f : α → D} {g : β → D} {l : List α} {m : List β} : zipOf [.lst (l.map f), .lst (m.map g)] = some ((l.zip m).map fun p => .tup [f p.1, g p.2]) := by
  simp only [zipOf, List.zip_map, List.map_map]; rfl
theorem w_zipT {α β : Type} {f : α → D} {g : β → D} {l : List α} {m : List β} : zipOf [.tup (l.map f), .tup (m.map g)] = some ((l.zip m).map fun p => .tup [f p.1, g p.2]) := by
  simp only [zipOf, List.zip_map, List.map_map]; rfl
/-! dicts over names: a value for each -/
def dOf (ns : List Str) (L : Str → D) : D := .dct (ns.map fun n => (.inr n, L n))
theorem dGet_map {ns : List Str} {L : Str → D} {n : Str} : dGet (ns.map fun n => ((.inr n : Ky), L n)) (.inr n) = if n ∈ ns then some (L n) else none := by
  induction ns with
  | nil => rfl
  | cons a r ih =>
    simp only [List.map_cons, dGet]
    by_cases h : a = n
    · subst h; simp
    · rw [if_neg (by simpa using h), ih]
      have h' : ¬ n = a := fun e => h e.symm
      simp [h']
theorem look_dOf {ns : List Str} {L : Str → D} {n : Str} : dLook (dOf ns L) (.str n) = some (if n ∈ ns then some (L n) else none) := by
  unfold dOf dLook; simp [D.key?, dGet_map]
theorem op_ixD {ns : List Str} {L : Str → D} {n : Str} (h : n ∈ ns) : opIx (dOf ns L) (.str n) = some (.dat (L n)) := by
  have := @look_dOf ns L n
  unfold dOf at this ⊢
  simp only [opIx, this]
  simp [h]
theorem op_inD {ns : List Str} {L : Str → D} {n : Str} : opIn (.str n) (dOf ns L) = some (.dat (.bl (decide (n ∈ ns)))) := by
  have := @look_dOf ns L n
  unfold dOf at this ⊢
  simp only [opIn, opIn0, this]
  by_cases h : n ∈ ns <;> simp [h]
theorem op_notInD {ns : List Str} {L : Str → D} {n : Str} : opNotIn (.str n) (dOf ns L) = some (.dat (.bl (!decide (n ∈ ns)))) := by
  have := @look_dOf ns L n
  unfold dOf at this ⊢
  simp only [opNotIn, opIn0, this]
  by_cases h : n ∈ ns <;> simp [h]
/-- a function changed at one place -/
def upd {β : Type} (L : Str → β) (n : Str) (v : β) : Str → β := fun m => if m = n then v else L m
theorem dSet_map {ns : List Str} {L : Str → D} {n : Str} {v : D} : dSet (ns.map fun n => ((.inr n : Ky), L n)) (.inr n) v = if n ∈ ns then ns.map (fun m => ((.inr m : Ky), upd L n v m)) else (ns ++ [n]).map (fun m => ((.inr m : Ky), upd L n v m)) := by
  unfold dSet
  by_cases h : n ∈ ns
  · rw [if_pos (by simpa using h), if_pos h, List.map_map]
    apply List.map_congr_left
    intro m _
    by_cases e : m = n <;> simp [upd, e]
  · rw [if_neg (by simpa using h), if_neg h, List.map_append]
    congr 1
    · apply List.map_congr_left
      intro m hm
      have : m ≠ n := fun e => h (e ▸ hm)
      simp [upd, this]
    · simp [upd]
theorem mm_put {ns : List Str} {L : Str → D} {n : Str} {v : D} (h : ns.length < sizeL) : mmPut (dOf ns L) [v, .str n] = some (if n ∈ ns then dOf ns (upd L n v) else dOf (ns ++ [n]) (upd L n v)) := by
  unfold dOf mmPut
  simp only [List.length_map, if_pos h, D.key?, Option.map_some, dSet_map]
  split <;> rfl
theorem dMerge_app {ps : List (Str × D)} : ∀ (ns : List Str) (L : Str → D), (ns ++ ps.map (·.1)).Nodup → (∀ p ∈ ps, L p.1 = p.2) → dMerge (ns.map fun n => ((.inr n : Ky), L n)) (ps.map fun p => ((.inr p.1 : Ky), p.2)) = (ns ++ ps.map (·.1)).map fun n => ((.inr n : Ky), L n) := by
  induction ps with
  | nil => intro ns L _ _; simp [dMerge]
  | cons p r ih =>
    intro ns L hn hL
    rw [List.map_cons, dMerge]
    have h1 : p.1 ∉ ns := by
      intro hm
      rw [List.nodup_append] at hn
      exact hn.2.2 _ hm _ (by simp) rfl
    have e : dSet (ns.map fun n => ((.inr n : Ky), L n)) (.inr p.1) p.2 = (ns ++ [p.1]).map fun n => ((.inr n : Ky), L n) := by
      rw [dSet_map, if_neg h1]
      apply List.map_congr_left
      intro m _
      unfold upd
      by_cases em : m = p.1
      · rw [if_pos em, em, hL p (List.mem_cons_self ..)]
      · rw [if_neg em]
    rw [e, ih (ns ++ [p.1]) L (by simpa using hn) fun q m => hL q (.tail _ m)]
    simp
theorem pairs_map : ∀ ps : List (Str × D), pairs? (ps.map fun p => .tup [.str p.1, p.2]) = some (ps.map fun p => ((.inr p.1 : Ky), p.2))
  | [] => rfl
  | p :: r => by simp [pairs?, D.key?, pairs_map r]
/-- dict of pairs with unlike names -/
theorem op_dict {ps : List (Str × D)} {L : Str → D} (h : (ps.map (·.1)).Nodup) (hL : ∀ p ∈ ps, L p.1 = p.2) : opDictP [.lst (ps.map fun p => .tup [.str p.1, p.2])] = some (.new (dOf (ps.map (·.1)) L)) := by
  unfold dOf
  simp only [opDictP, pairs_map, Option.map_some]
  rw [show ([] : List (Ky × D)) = ([] : List Str).map (fun n => ((.inr n : Ky), L n)) from rfl, dMerge_app [] L (by simpa using h) hL]
  simp
end DL
end
local macro_rules
  | `(tactic| exists $ts,*) => do
    let alts0 ← ts.getElems.mapM fun t => `(Lean.Parser.Tactic.tacticSeq| with_reducible exact $t)
    let alts1 ← ts.getElems.mapM fun t => `(Lean.Parser.Tactic.tacticSeq| ((with_reducible apply DL.Ec.mk); with_reducible exact $t))
    let us := alts0 ++ alts1
    `(tactic| repeat' first
      | with_reducible exact DL.r_c
      | with_reducible exact DL.ra_nil
      | with_reducible exact DL.rp_none
      | with_reducible exact DL.rt_yes
      | with_reducible exact DL.s_nil
      | with_reducible exact DL.s_retN
      | with_reducible exact DL.s_raise
      | with_reducible exact DL.r_var rfl rfl
      | with_reducible apply DL.r_bin
      | with_reducible apply DL.r_un
      | with_reducible apply DL.r_op
      | with_reducible apply DL.ra_cons
      | with_reducible apply DL.r_call
      | with_reducible apply DL.r_tup
      | with_reducible apply DL.r_lst
      | with_reducible apply DL.r_lcy
      | with_reducible apply DL.r_lc
      | with_reducible apply DL.r_chain
      | with_reducible apply DL.r_meth
      | with_reducible apply DL.r_cut
      | with_reducible apply DL.rp_some
      | with_reducible apply DL.r_and
      | with_reducible apply DL.r_or
      | with_reducible apply DL.r_not
      | with_reducible apply DL.r_if
      | with_reducible apply DL.r_disp1
      | with_reducible apply DL.rt_val
      | with_reducible apply DL.rt_not
      | with_reducible apply DL.rt_and
      | with_reducible apply DL.rt_or
      | with_reducible apply DL.ri_seq
      | with_reducible apply DL.ri_of
      | with_reducible apply DL.s_retAnd
      | with_reducible apply DL.s_ret
      | with_reducible apply DL.s_expr
      | with_reducible apply DL.s_set
      | with_reducible apply DL.s_unp
      | with_reducible apply DL.s_mut
      | with_reducible apply DL.s_par
      | with_reducible apply DL.q_set
      | with_reducible apply DL.q_expr
      | with_reducible apply DL.q_unp
      | with_reducible apply DL.q_mut
      | with_reducible apply DL.q_par
      | with_reducible apply DL.q_ifR
      | with_reducible apply DL.q_ifX
      | with_reducible apply DL.q_if1R
      | with_reducible apply DL.q_if1X
      $[| $us]*
      | ((with_reducible apply DL.isi_eq (b := true)); rfl)
      | ((with_reducible apply DL.isi_eq (b := false)); rfl)
      | with_reducible exact DL.op_addI
      | with_reducible exact DL.op_subI
      | with_reducible exact DL.op_negI
      | with_reducible exact DL.op_eqI
      | with_reducible exact DL.op_neI
      | with_reducible exact DL.op_ltI
      | with_reducible exact DL.op_leI
      | with_reducible exact DL.op_gtI
      | with_reducible exact DL.op_geI
      | with_reducible exact DL.op_ltS
      | with_reducible exact DL.op_ixt0
      | with_reducible exact DL.op_ixt1
      | with_reducible exact DL.op_ixt2
      | with_reducible exact DL.op_ixt3
      | with_reducible exact DL.op_ixl0
      | with_reducible exact DL.op_ixl1
      | with_reducible exact DL.op_lenL
      | with_reducible exact DL.op_lenT
      | with_reducible exact DL.op_lenD
      | with_reducible exact DL.op_tupL
      | with_reducible exact DL.op_listT
      | with_reducible exact DL.op_listL
      | with_reducible exact DL.op_all
      | with_reducible exact DL.op_any
      | with_reducible exact DL.op_sum
      | with_reducible exact DL.op_inD
      | with_reducible exact DL.op_notInD
      | with_reducible exact DL.w_enum
      | with_reducible exact DL.w_zip
      | with_reducible exact DL.w_zipT
      | with_reducible apply DL.op_ixD
      | with_reducible exact DL.op_mod (by omega)
      | with_reducible exact DL.op_mulr (by omega)
      | with_reducible exact DL.op_mull (by omega)
      | with_reducible exact DL.op_fdiv (by omega) (by omega)
      | with_reducible apply DL.op_mod
      | with_reducible exact DL.ta_nil
      | with_reducible apply DL.ta_dat
      | with_reducible apply DL.ta_new
      | ((with_reducible apply DL.ta_own); rfl)
      | ((with_reducible apply DL.ta_val); rfl)
      | ((with_reducible apply DL.ta_thk); rfl)
      | ((with_reducible apply DL.ta_thks); rfl)
      | with_reducible exact DL.gd_dat
      | with_reducible exact DL.gf_dat
      | with_reducible exact DL.gd_new
      | with_reducible exact DL.gf_new
      | ((with_reducible apply DL.gd_own); rfl)
      | ((with_reducible apply DL.gd_val); rfl)
      | ((with_reducible apply DL.gf_own); rfl)
      | ((with_reducible apply DL.gf_val); rfl)
      | with_reducible exact DL.fz_dat
      | with_reducible exact DL.fz_new
      | with_reducible exact DL.fz_fixd
      | with_reducible exact DL.fz_fixn
      | ((with_reducible apply DL.fz_val); rfl)
      | ((with_reducible apply DL.fz_own); rfl)
      | with_reducible exact DL.fa_nil
      | with_reducible apply DL.fa_cons
      | with_reducible exact DL.ga_nil
      | with_reducible apply DL.ga_cons
      | with_reducible exact DL.fx_dat
      | with_reducible exact DL.fx_new
      | with_reducible exact DL.fx_slot
      | with_reducible exact DL.rt_dat
      | with_reducible exact DL.rt_new
      | ((with_reducible apply DL.rt_own); rfl)
      | ((with_reducible apply DL.rt_sval); rfl)
      | with_reducible exact DL.rv_dat
      | with_reducible exact DL.rv_new
      | ((with_reducible apply DL.gt_tup); rfl)
      | with_reducible exact DL.gs_nil
      | with_reducible apply DL.gs_cons
      | (intro _)
      | ((with_reducible show DL.wipeSl _ _ = _); (simp only [DL.wipeSl, DL.backSl, DL.gSet, DL.gTups, DL.gSets, DL.storeRv, List.set_cons_zero, List.set_cons_succ, List.getElem?_cons_zero, List.getElem?_cons_succ, DL.Slot.mine, DL.Slot.ofArg, Bool.false_eq_true, if_true, if_false, List.map_cons, List.map_nil, List.length_cons, List.length_nil, List.replicate, List.cons_append, List.nil_append, Nat.reduceSub, Nat.reduceAdd, DL.parSlot] <;> rfl))
      | ((with_reducible show DL.backSl _ _ _ = _); (simp only [DL.wipeSl, DL.backSl, DL.gSet, DL.gTups, DL.gSets, DL.storeRv, List.set_cons_zero, List.set_cons_succ, List.getElem?_cons_zero, List.getElem?_cons_succ, DL.Slot.mine, DL.Slot.ofArg, Bool.false_eq_true, if_true, if_false, List.map_cons, List.map_nil, List.length_cons, List.length_nil, List.replicate, List.cons_append, List.nil_append, Nat.reduceSub, Nat.reduceAdd, DL.parSlot] <;> rfl))
      | ((with_reducible show DL.storeRv _ _ _ = _); (simp only [DL.wipeSl, DL.backSl, DL.gSet, DL.gTups, DL.gSets, DL.storeRv, List.set_cons_zero, List.set_cons_succ, List.getElem?_cons_zero, List.getElem?_cons_succ, DL.Slot.mine, DL.Slot.ofArg, Bool.false_eq_true, if_true, if_false, List.map_cons, List.map_nil, List.length_cons, List.length_nil, List.replicate, List.cons_append, List.nil_append, Nat.reduceSub, Nat.reduceAdd, DL.parSlot] <;> rfl))
      | ((with_reducible show DL.gSet _ _ _ = _); (simp only [DL.wipeSl, DL.backSl, DL.gSet, DL.gTups, DL.gSets, DL.storeRv, List.set_cons_zero, List.set_cons_succ, List.getElem?_cons_zero, List.getElem?_cons_succ, DL.Slot.mine, DL.Slot.ofArg, Bool.false_eq_true, if_true, if_false, List.map_cons, List.map_nil, List.length_cons, List.length_nil, List.replicate, List.cons_append, List.nil_append, Nat.reduceSub, Nat.reduceAdd, DL.parSlot] <;> rfl))
      | (with_reducible show gTups _ _ _ = _; (simp only [DL.wipeSl, DL.backSl, DL.gSet, DL.gTups, DL.gSets, DL.storeRv, List.set_cons_zero, List.set_cons_succ, List.getElem?_cons_zero, List.getElem?_cons_succ, DL.Slot.mine, DL.Slot.ofArg, Bool.false_eq_true, if_true, if_false, List.map_cons, List.map_nil, List.length_cons, List.length_nil, List.replicate, List.cons_append, List.nil_append, Nat.reduceSub, Nat.reduceAdd, DL.parSlot] <;> rfl))
      | ((with_reducible show List.set _ _ _ = _); (simp only [DL.wipeSl, DL.backSl, DL.gSet, DL.gTups, DL.gSets, DL.storeRv, List.set_cons_zero, List.set_cons_succ, List.getElem?_cons_zero, List.getElem?_cons_succ, DL.Slot.mine, DL.Slot.ofArg, Bool.false_eq_true, if_true, if_false, List.map_cons, List.map_nil, List.length_cons, List.length_nil, List.replicate, List.cons_append, List.nil_append, Nat.reduceSub, Nat.reduceAdd, DL.parSlot] <;> rfl))
      | with_reducible rfl
      | ((with_reducible show DL.parSlot _ = _); (simp only [DL.wipeSl, DL.backSl, DL.gSet, DL.gTups, DL.gSets, DL.storeRv, List.set_cons_zero, List.set_cons_succ, List.getElem?_cons_zero, List.getElem?_cons_succ, DL.Slot.mine, DL.Slot.ofArg, Bool.false_eq_true, if_true, if_false, List.map_cons, List.map_nil, List.length_cons, List.length_nil, List.replicate, List.cons_append, List.nil_append, Nat.reduceSub, Nat.reduceAdd, DL.parSlot] <;> rfl))
      | ((with_reducible show _[_]? = some _); rfl)
      | ((with_reducible show DL.rvAt _ _ = some _); rfl)
      | ((with_reducible show DL.itemsOf _ = some _); rfl)
      | ((with_reducible show DL.D.key? _ = some _); rfl)
      | ((with_reducible show DL.opIs _ _ = some _); rfl)
      | ((with_reducible show DL.opIsNot _ _ = some _); rfl)
      | ((with_reducible show DL.opAll _ = some _); rfl)
      | ((with_reducible show DL.opAny _ = some _); rfl)
      | ((with_reducible show DL.opSum _ = some _); rfl)
      | ((with_reducible show DL.opIx _ _ = some _); rfl)
      | ((with_reducible show DL.Rv.get _ _ = some _); rfl)
      | ((with_reducible show DL.opEq _ _ = some _); rfl)
      | ((with_reducible show DL.opNe _ _ = some _); rfl)
      | ((with_reducible show DL.opInt _ = some _); rfl)
      | ((with_reducible show DL.isLst _ = true); rfl)
      | ((with_reducible show DL.isAny _ = true); rfl)
      | ((with_reducible show DL.isDct _ = true); rfl)
      | ((with_reducible show DL.isStr _ = true); rfl)
      | ((with_reducible show _ ≤ DL.sizeL); exact Nat.le_of_ble_eq_true rfl)
      | assumption)

section
set_option linter.all false
set_option maxRecDepth 100000
set_option autoImplicit false
/-! trees, typed -/
namespace SK
open PySem DL
structure Sk where
  name : Str
  most : Int
  cost : Int
  wants : List (Str × Int)
  deriving DecidableEq
structure Tr where
  sks : List Sk
  locks : List (Str × Str)
abbrev encW (w : Str × Int) : D := .tup [.str w.1, .int w.2]
abbrev encSk (s : Sk) : D := .tup [.str s.name, .int s.most, .int s.cost, .tup (s.wants.map encW)]
abbrev encL (l : Str × Str) : D := .tup [.str l.1, .str l.2]
abbrev encT (t : Tr) : D := .tup [.tup (t.sks.map encSk), .tup (t.locks.map encL)]
abbrev Tr.names (t : Tr) : List Str := t.sks.map (·.name)
def smallS : Str := "abcdefghijklmnopqrstuvwxyz"
/-- a name as the program wants it -/
def okName (x : Str) : Bool := decide (1 ≤ x.cps.size) && decide (x.cps.size ≤ 6) && x.cps.toList.all fun c => decide (97 ≤ c) && decide (c ≤ 122)
structure WF (t : Tr) : Prop where
  pos : 1 ≤ t.sks.length
  len : t.sks.length ≤ 6
  nd : t.names.Nodup
  nm : ∀ n ∈ t.names, okName n = true
  most : ∀ s ∈ t.sks, 1 ≤ s.most ∧ s.most ≤ 3
  cost : ∀ s ∈ t.sks, 1 ≤ s.cost ∧ s.cost ≤ 9
  wnd : ∀ s ∈ t.sks, (s.wants.map (·.1)).Nodup
  want : ∀ s ∈ t.sks, ∀ w ∈ s.wants, 1 ≤ w.2 ∧ ∃ s' ∈ t.sks, s'.name = w.1 ∧ w.2 ≤ s'.most
  /-- wants go down -/
  ring : ∃ rk : Str → Nat, ∀ s ∈ t.sks, rk s.name < 6 ∧ ∀ w ∈ s.wants, rk w.1 < rk s.name
  lock : ∀ l ∈ t.locks, l.1 ∈ t.names ∧ l.2 ∈ t.names ∧ strLt l.1 l.2 = true
  lnd : t.locks.Nodup
  llen : t.locks.length ≤ 3
theorem okStr_of {x : Str} (h : okName x = true) : okStr x = true := by
  unfold okName at h
  unfold okStr
  simp only [Bool.and_eq_true, List.all_eq_true, decide_eq_true_eq] at h ⊢
  intro c hc
  have := h.2 c hc
  omega
section
variable {t : Tr} (h : WF t)
include h
theorem WF.okn {n : Str} (hn : n ∈ t.names) : okStr n = true := okStr_of (h.nm n hn)
theorem WF.mem {s : Sk} (hs : s ∈ t.sks) : s.name ∈ t.names := List.mem_map_of_mem hs
theorem WF.oks {s : Sk} (hs : s ∈ t.sks) : okStr s.name = true := h.okn (h.mem hs)
theorem WF.wmem {s : Sk} (hs : s ∈ t.sks) {w : Str × Int} (hw : w ∈ s.wants) : w.1 ∈ t.names := by
  obtain ⟨_, s', hs', e, _⟩ := h.want s hs w hw
  exact e ▸ h.mem hs'
theorem WF.okw {s : Sk} (hs : s ∈ t.sks) {w : Str × Int} (hw : w ∈ s.wants) : okStr w.1 = true := h.okn (h.wmem hs hw)
theorem WF.size : t.sks.length ≤ sizeL := Nat.le_trans h.len (by decide)
theorem WF.uniq {s s' : Sk} (hs : s ∈ t.sks) (hs' : s' ∈ t.sks) (e : s.name = s'.name) : s = s' := by
  have nd := h.nd
  unfold Tr.names at nd
  clear h
  generalize t.sks = l at hs hs' nd
  induction l with
  | nil => cases hs
  | cons a r ih =>
    simp only [List.map_cons, List.nodup_cons] at nd
    rcases List.mem_cons.mp hs with rfl | m1 <;> rcases List.mem_cons.mp hs' with rfl | m2
    · rfl
    · exact absurd (e ▸ List.mem_map_of_mem (f := Sk.name) m2) nd.1
    · exact absurd (e ▸ List.mem_map_of_mem (f := Sk.name) m1) nd.1
    · exact ih m1 m2 nd.2
theorem WF.filt {s : Sk} (hs : s ∈ t.sks) : t.sks.filter (fun x => decide (x.name = s.name)) = [s] := by
  have nd := h.nd
  unfold Tr.names at nd
  clear h
  generalize t.sks = l at hs nd
  induction l with
  | nil => cases hs
  | cons a r ih =>
    simp only [List.map_cons, List.nodup_cons] at nd
    rcases List.mem_cons.mp hs with rfl | m1
    · rw [List.filter_cons, if_pos (by simp)]
      congr 1
      rw [List.filter_eq_nil_iff]
      intro x hx
      simp only [decide_eq_true_eq]
      exact fun e => nd.1 (e ▸ List.mem_map_of_mem (f := Sk.name) hx)
    · rw [List.filter_cons, if_neg, ih m1 nd.2]
      simp only [decide_eq_true_eq]
      exact fun e => nd.1 (e ▸ List.mem_map_of_mem (f := Sk.name) m1)
end
/-- lengths of wants -/
theorem nodup_sub {α : Type} [DecidableEq α] : ∀ {a b : List α}, a.Nodup → (∀ x ∈ a, x ∈ b) → a.length ≤ b.length
  | [], b, _, _ => Nat.zero_le _
  | x :: r, b, h, hs => by
    have hx := hs x (List.mem_cons_self ..)
    have := nodup_sub (a := r) (b := b.erase x) (List.nodup_cons.mp h).2 fun y hy => by
      have hne : y ≠ x := fun e => (List.nodup_cons.mp h).1 (e ▸ hy)
      exact (List.mem_erase_of_ne hne).mpr (hs y (.tail _ hy))
    rw [List.length_erase_of_mem hx] at this
    have hp := List.length_pos_of_mem hx
    simp only [List.length_cons]
    omega
theorem WF.wlen {t : Tr} (h : WF t) {s : Sk} (hs : s ∈ t.sks) : s.wants.length ≤ 6 := by
  have := nodup_sub (h.wnd s hs) (b := t.names) fun x hx => by
    obtain ⟨w, hw, rfl⟩ := List.mem_map.mp hx
    exact h.wmem hs hw
  have hl := h.len
  simp only [List.length_map, Tr.names] at this
  omega
theorem WF.wsize {t : Tr} (h : WF t) {s : Sk} (hs : s ∈ t.sks) : s.wants.length ≤ sizeL := Nat.le_trans (h.wlen hs) (by decide)
end SK
end
section
set_option linter.all false
set_option maxRecDepth 100000
set_option autoImplicit false
namespace SK
open PySem DL SM
theorem e_names_of {t : Tr} (h : WF t) : f_names_of [encT t] = .ret (.lst (t.sks.map fun s => .str s.name)) true := by
  (unfold f_names_of; apply DL.fn_ev; (focus (simp only [DL.wipeSl, DL.backSl, DL.gSet, DL.gTups, DL.gSets, DL.storeRv, List.set_cons_zero, List.set_cons_succ, List.getElem?_cons_zero, List.getElem?_cons_succ, DL.Slot.mine, DL.Slot.ofArg, Bool.false_eq_true, if_true, if_false, List.map_cons, List.map_nil, List.length_cons, List.length_nil, List.replicate, List.cons_append, List.nil_append, Nat.reduceSub, Nat.reduceAdd, DL.parSlot] <;> rfl)); (focus (unfold s_names_of; exists h.size)))
  · rfl
theorem e_is_count (i a b : Int) : f_is_count [.d (.int i), .d (.int a), .d (.int b)] = .ret (.bl (decide (a ≤ i) && decide (i ≤ b))) false := by
  (unfold f_is_count; apply DL.fn_ev; (focus (simp only [DL.wipeSl, DL.backSl, DL.gSet, DL.gTups, DL.gSets, DL.storeRv, List.set_cons_zero, List.set_cons_succ, List.getElem?_cons_zero, List.getElem?_cons_succ, DL.Slot.mine, DL.Slot.ofArg, Bool.false_eq_true, if_true, if_false, List.map_cons, List.map_nil, List.length_cons, List.length_nil, List.replicate, List.cons_append, List.nil_append, Nat.reduceSub, Nat.reduceAdd, DL.parSlot] <;> rfl)); (focus (unfold s_is_count; exists ())))
  · rfl
theorem small_mem (c : Nat) : decide (c ∈ ("abcdefghijklmnopqrstuvwxyz" : Str).cps.toList) = (decide (97 ≤ c) && decide (c ≤ 122)) := by
  have e : ("abcdefghijklmnopqrstuvwxyz" : Str).cps.toList = (List.range 26).map (· + 97) := by decide +kernel
  rw [e, Bool.eq_iff_iff]
  simp only [decide_eq_true_eq, Bool.and_eq_true, List.mem_map, List.mem_range]
  constructor
  · rintro ⟨a, h, rfl⟩; omega
  · intro h; exact ⟨c - 97, by omega, by omega⟩
theorem e_is_name (x : Str) (hx : x.cps.size ≤ 1000) : f_is_name [.d (.str x)] = .ret (.bl (okName x)) false := by
  have h1 : x.length ≤ sizeL := Nat.le_trans hx (by decide)
  have h2 : opLen [.str x] = some (.dat (.int x.cps.size)) := if_pos h1
  have h3 : ∀ c, opIn (.str ⟨#[c]⟩) (.str "abcdefghijklmnopqrstuvwxyz") = some (.dat (.bl (decide (97 ≤ c) && decide (c ≤ 122)))) := fun c => by
    rw [← small_mem]; rfl
  (unfold f_is_name; apply DL.fn_ev; (focus (simp only [DL.wipeSl, DL.backSl, DL.gSet, DL.gTups, DL.gSets, DL.storeRv, List.set_cons_zero, List.set_cons_succ, List.getElem?_cons_zero, List.getElem?_cons_succ, DL.Slot.mine, DL.Slot.ofArg, Bool.false_eq_true, if_true, if_false, List.map_cons, List.map_nil, List.length_cons, List.length_nil, List.replicate, List.cons_append, List.nil_append, Nat.reduceSub, Nat.reduceAdd, DL.parSlot] <;> rfl)); (focus (unfold s_is_name; exists h2, h3 _, h1)))
  · have e1 : decide ((1 : Int) ≤ (x.cps.size : Int)) = decide (1 ≤ x.cps.size) := decide_eq_decide.mpr (by omega)
    have e2 : decide ((x.cps.size : Int) ≤ 6) = decide (x.cps.size ≤ 6) := decide_eq_decide.mpr (by omega)
    simp only [outRes, retOf, okName, Bool.true_and, e1, e2]
theorem e_names_d {n : Str} (h : okName n = true) : n.cps.size ≤ 1000 := by
  simp only [okName, Bool.and_eq_true, decide_eq_true_eq] at h
  omega
theorem lenSet_nd {l : List Str} (h : l.Nodup) (hl : l.length ≤ 1000) : opLenSet (.lst (l.map D.str)) = some (.dat (.int l.length)) := by
  have e : dedupL l = l := by
    clear hl
    induction l with
    | nil => rfl
    | cons a r ih =>
      have h2 := List.nodup_cons.mp h
      rw [dedupL, if_neg h2.1, ih h2.2]
  have := strs_map (fun x : Str => x) l
  simp only [List.map_id'] at this
  unfold opLenSet
  simp only [seqOf?, Option.bind_some]
  show (match strs? (l.map D.str) with | some xs => _ | none => _) = _
  rw [this]
  simp [hl, e]
theorem e_is_skill {t : Tr} (h : WF t) {s : Sk} (hs : s ∈ t.sks) : f_is_skill [encSk s] = .ret (.bl true) false := by
  have k1 : f_is_name [.d (.str s.name)] = .ret (.bl true) false := by
    rw [e_is_name _ (e_names_d (h.nm _ (h.mem hs))), h.nm _ (h.mem hs)]
  have k2 : ∀ w ∈ s.wants, f_is_name [.d (.str w.1)] = .ret (.bl true) false := fun w hw => by
    rw [e_is_name _ (e_names_d (h.nm _ (h.wmem hs hw))), h.nm _ (h.wmem hs hw)]
  have k3 : opLenSet (.lst (s.wants.map fun w => .str w.1)) = some (.dat (.int s.wants.length)) := by
    have := lenSet_nd (h.wnd s hs) (by have := h.wlen hs; simp; omega)
    simpa [List.map_map, Function.comp_def] using this
  have b1 := h.most s hs
  have b2 := h.cost s hs
  (unfold f_is_skill; apply DL.fn_ev; (focus (simp only [DL.wipeSl, DL.backSl, DL.gSet, DL.gTups, DL.gSets, DL.storeRv, List.set_cons_zero, List.set_cons_succ, List.getElem?_cons_zero, List.getElem?_cons_succ, DL.Slot.mine, DL.Slot.ofArg, Bool.false_eq_true, if_true, if_false, List.map_cons, List.map_nil, List.length_cons, List.length_nil, List.replicate, List.cons_append, List.nil_append, Nat.reduceSub, Nat.reduceAdd, DL.parSlot] <;> rfl)); (focus (unfold s_is_skill; exists k1, e_is_count _ _ _)))
  · apply s_seq
    · apply s_for
      focus (exists ())
      focus (exists ())
      refine for_same _ fun w hw => ?_
      obtain ⟨w1, s', hs', _, w2⟩ := h.want s hs w hw
      have b3 := h.most s' hs'
      apply turn_ev
      focus (exists ())
      focus (exists k2 _ hw, e_is_count _ _ _)
      · simp [w1]
        rw [if_neg (by omega)]
      · (exists ())
    · (exists k3)
      exact h.wsize hs
  · simp [outRes, b1, b2]
end SK
end
section
set_option linter.all false
set_option maxRecDepth 100000
set_option autoImplicit false
namespace SK
open PySem DL SM

theorem eqT_w : EqT encW (fun w => okStr w.1 = true ∧ True) 1 := eqT_str.pair eqT_int
theorem eqT_l : EqT encL (fun l => okStr l.1 = true ∧ okStr l.2 = true) 1 := eqT_str.pair eqT_str
theorem eqT_sk : EqT encSk (fun s => okStr s.name = true ∧ ∀ w ∈ s.wants, okStr w.1 = true) 3 := by
  have e := eqT_w.tup
  refine ⟨fun s hs => ?_, fun s => ?_, fun a b => ?_, fun _ => rfl⟩
  · show DL.D.laids _ = true
    have h1 := e.laid s.wants fun w hw => ⟨hs.2 w hw, trivial⟩
    have h2 : DL.D.laids (s.wants.map encW) = true := h1
    simp [DL.D.laids, h2, DL.D.laid, hs.1]
  · show DL.D.deps _ + 1 ≤ _
    have := e.dep s.wants
    simp only [DL.D.deps, DL.D.dep] at this ⊢
    omega
  · show DL.D.eqvs _ _ = _
    have h1 := e.eqv a.wants b.wants
    simp only [DL.D.eqvs, eqv_str, eqv_int, h1, Bool.and_true]
    cases a; cases b
    simp [Bool.and_assoc]
theorem WF.okSk {t : Tr} (h : WF t) {s : Sk} (hs : s ∈ t.sks) : okStr s.name = true ∧ ∀ w ∈ s.wants, okStr w.1 = true := ⟨h.oks hs, fun _ hw => h.okw hs hw⟩
/-- an element of least rank -/
theorem least_rank {α : Type} (f : α → Nat) : ∀ l : List α, l ≠ [] → ∃ x ∈ l, ∀ y ∈ l, f x ≤ f y
  | [], h => absurd rfl h
  | [a], _ => ⟨a, by simp, by simp⟩
  | a :: b :: r, _ => by
    obtain ⟨x, hx, hy⟩ := least_rank f (b :: r) (by simp)
    by_cases c : f a ≤ f x
    · refine ⟨a, by simp, fun y m => ?_⟩
      rcases List.mem_cons.mp m with rfl | m
      · exact Nat.le_refl _
      · exact Nat.le_trans c (hy y m)
    · refine ⟨x, .tail _ hx, fun y m => ?_⟩
      rcases List.mem_cons.mp m with rfl | m
      · omega
      · exact hy y m
abbrev ringGo (l : List Sk × List Str) : List Sk := l.1.filter fun s => s.wants.all fun w => decide (w.1 ∈ l.2)
def ringStep (l : List Sk × List Str) : List Sk × List Str := (l.1.filter fun s => !decide (s ∈ ringGo l), l.2 ++ (ringGo l).map (·.name))
structure RingP (t : Tr) (a : List Sk × List Str) : Prop where
  sub : ∀ s ∈ a.1, s ∈ t.sks
  ok : ∀ n ∈ a.2, n ∈ t.names
  all : ∀ s ∈ t.sks, s ∈ a.1 ∨ s.name ∈ a.2
  len : a.1.length + a.2.length ≤ 6
theorem filt_len {α : Type} (p : α → Bool) : ∀ l : List α, (l.filter p).length + (l.filter fun x => !p x).length = l.length
  | [] => rfl
  | a :: r => by
    have := filt_len p r
    by_cases h : p a = true
    · simp [List.filter_cons, h]; omega
    · simp [List.filter_cons, h]; omega
theorem ring_go {t : Tr} (h : WF t) {a : List Sk × List Str} (p : RingP t a) (hne : a.1 ≠ []) : ringGo a ≠ [] := by
  obtain ⟨rk, hr⟩ := h.ring
  obtain ⟨x, hx, hy⟩ := least_rank (fun s : Sk => rk s.name) a.1 hne
  refine List.ne_nil_of_mem (a := x) ?_
  unfold ringGo
  rw [List.mem_filter]
  refine ⟨hx, List.all_eq_true.mpr fun w hw => decide_eq_true ?_⟩
  obtain ⟨_, s', hs', e, _⟩ := h.want x (p.sub x hx) w hw
  rcases p.all s' hs' with m | m
  · have := hy s' m
    have := (hr x (p.sub x hx)).2 w hw
    rw [← e] at this
    omega
  · exact e ▸ m
theorem ring_filt {a : List Sk × List Str} : (ringStep a).1 = a.1.filter fun s => !(s.wants.all fun w => decide (w.1 ∈ a.2)) := by
  unfold ringStep
  apply List.filter_congr
  intro s hs
  congr 1
  rw [Bool.eq_iff_iff, decide_eq_true_eq]
  unfold ringGo
  rw [List.mem_filter]
  exact ⟨fun m => m.2, fun m => ⟨hs, m⟩⟩
theorem ring_step {t : Tr} (h : WF t) {a : List Sk × List Str} (p : RingP t a) (hne : a.1 ≠ []) : RingP t (ringStep a) ∧ (ringStep a).1.length < a.1.length := by
  have hg := ring_go h p hne
  have hl := filt_len (fun s : Sk => s.wants.all fun w => decide (w.1 ∈ a.2)) a.1
  have hgl : 0 < (ringGo a).length := List.length_pos_iff.mpr hg
  unfold ringGo at hgl
  have e := @ring_filt a
  refine ⟨⟨fun s hs => p.sub s ?_, fun n hn => ?_, fun s hs => ?_, ?_⟩, ?_⟩
  · exact (List.mem_filter.mp hs).1
  · unfold ringStep at hn
    rcases List.mem_append.mp hn with m | m
    · exact p.ok n m
    · obtain ⟨s, hs, rfl⟩ := List.mem_map.mp m
      exact h.mem (p.sub s ((List.mem_filter.mp hs).1))
  · rcases p.all s hs with m | m
    · by_cases c : s ∈ ringGo a
      · exact .inr (List.mem_append.mpr (.inr (List.mem_map_of_mem c)))
      · exact .inl (List.mem_filter.mpr ⟨m, by simp [c]⟩)
    · exact .inr (List.mem_append.mpr (.inl m))
  · rw [e]
    simp only [ringStep, List.length_append, List.length_map]
    have := p.len
    unfold ringGo
    omega
  · rw [e]; omega
theorem e_has_no_ring {t : Tr} (h : WF t) : f_has_no_ring [.d (.tup (t.sks.map encSk))] = .ret (.bl true) false := by
  have W := while_ev (dead := [3]) (t := mtVal (mBin opNe (mVar 1) (mLst maNil))) (b := b_has_no_ring_1) (S := fun a : List Sk × List Str => [.val (.tup (t.sks.map encSk)), .own (.lst (a.1.map encSk)), .own (.lst (a.2.map DL.D.str)), .no, .no, .no]) (go := fun a => !decide (a.1 = [])) (step := ringStep) (μ := fun a => a.1.length) (RingP t) ?_ ?_ ?_ 12 (t.sks, []) ?_ ?_
  · obtain ⟨k, e, _⟩ := W
    (unfold f_has_no_ring; apply DL.fn_ev; (focus (simp only [DL.wipeSl, DL.backSl, DL.gSet, DL.gTups, DL.gSets, DL.storeRv, List.set_cons_zero, List.set_cons_succ, List.getElem?_cons_zero, List.getElem?_cons_succ, DL.Slot.mine, DL.Slot.ofArg, Bool.false_eq_true, if_true, if_false, List.map_cons, List.map_nil, List.length_cons, List.length_nil, List.replicate, List.cons_append, List.nil_append, Nat.reduceSub, Nat.reduceAdd, DL.parSlot] <;> rfl)); (focus (unfold s_has_no_ring; exists ())))
    · apply s_seq
      · apply s_while
        focus (exists ())
        exact e
      · (exists ())
    · rfl
  · intro a p
    have p5 : opNe (.lst (a.1.map encSk)) (.lst []) = some (.dat (.bl (!decide (a.1 = [])))) := op_ne (y := []) eqT_sk.lst (fun s m => h.okSk (p.sub s m)) nofun (by decide)
    (exists p5)
  · intro a p g
    have p1 : ∀ s ∈ a.1, s.wants.length ≤ sizeL := fun s m => h.wsize (p.sub s m)
    have p2 : a.1.length ≤ sizeL := Nat.le_trans (Nat.le_add_right ..) (Nat.le_trans p.len (by decide))
    have p3 : (ringGo a).length ≤ sizeL := Nat.le_trans (List.length_filter_le ..) p2
    have p4 : ∀ s ∈ a.1, ∀ w ∈ s.wants, opIn (.str w.1) (.lst (a.2.map DL.D.str)) = some (.dat (.bl (decide (w.1 ∈ a.2)))) := fun s m w hw => op_in eqT_str (h.okw (p.sub s m) hw) (fun y my => h.okn (p.ok y my)) (by decide)
    have p5 : opEq (.lst ((ringGo a).map encSk)) (.lst []) = some (.dat (.bl (decide (ringGo a = [])))) := op_eq (y := []) eqT_sk.lst (fun s m => h.okSk (p.sub s (List.mem_filter.mp m).1)) nofun (by decide)
    have p6 : (a.2.map DL.D.str).length + ((ringGo a).map fun x => DL.D.str x.name).length ≤ sizeL := by
      have := p.len
      have h3 := List.length_filter_le (fun s : Sk => s.wants.all fun w => decide (w.1 ∈ a.2)) a.1
      simp only [List.length_map, ringGo, sizeL]
      omega
    have p7 : ∀ s ∈ a.1, opNotIn (encSk s) (.lst ((ringGo a).map encSk)) = some (.dat (.bl (!decide (s ∈ ringGo a)))) := fun s m => op_notIn eqT_sk (h.okSk (p.sub s m)) (fun y my => h.okSk (p.sub y (List.mem_filter.mp my).1)) (by decide)
    apply ex_nx
    focus (exists p1 _ ‹_›, p2, p3, p4 _ ‹_› _ ‹_›, p5, mm_ext p6, p7 _ ‹_›)
    · rw [if_neg (by simpa using ring_go h p (by simpa using g))]
    · (exists ())
      simp only [ringStep, List.map_append, List.map_map]
      rfl
  · intro a p g
    exact ring_step h p (by simpa using g)
  · exact ⟨fun s m => m, nofun, fun s m => .inl m, by have := h.len; simpa using this⟩
  · have := h.len
    show t.sks.length < 12
    omega
end SK
end
section
set_option linter.all false
set_option maxRecDepth 100000
set_option autoImplicit false
namespace SK
open PySem DL SM
/-- a skill's most, by name -/
def Tr.sk? (t : Tr) (n : Str) : Option Sk := t.sks.find? fun s => decide (s.name = n)
def Tr.mostOf (t : Tr) (n : Str) : Int := ((t.sk? n).map (·.most)).getD 0
theorem WF.find {t : Tr} (h : WF t) {s : Sk} (hs : s ∈ t.sks) : t.sk? s.name = some s := by
  unfold Tr.sk?
  rw [← List.head?_filter, h.filt hs]
  rfl
theorem WF.mostOf {t : Tr} (h : WF t) {s : Sk} (hs : s ∈ t.sks) : t.mostOf s.name = s.most := by
  unfold Tr.mostOf; rw [h.find hs]; rfl
theorem strTups_locks : ∀ l : List (Str × Str), strTups? (l.map encL) = some (l.map fun p => [p.1, p.2])
  | [] => rfl
  | p :: r => by simp [strTups?, encL, strs?, strTups_locks r]
theorem dedup_nd {α : Type} [DecidableEq α] {l : List α} (h : l.Nodup) : dedupL l = l := by
  induction l with
  | nil => rfl
  | cons a r ih =>
    have h2 := List.nodup_cons.mp h
    rw [dedupL, if_neg h2.1, ih h2.2]
theorem nodup_map {α β : Type} {f : α → β} (hf : ∀ x y, f x = f y → x = y) {l : List α} (h : l.Nodup) : (l.map f).Nodup := by
  induction l with
  | nil => exact List.nodup_nil
  | cons a r ih =>
    have h2 := List.nodup_cons.mp h
    rw [List.map_cons, List.nodup_cons]
    refine ⟨fun m => ?_, ih h2.2⟩
    obtain ⟨b, hb, e⟩ := List.mem_map.mp m
    exact h2.1 (hf _ _ e ▸ hb)
theorem lenSet_locks {l : List (Str × Str)} (h : l.Nodup) (hl : l.length ≤ 3) : opLenSet (.tup (l.map encL)) = some (.dat (.int l.length)) := by
  cases l with
  | nil => rfl
  | cons p r =>
    unfold opLenSet
    simp only [seqOf?, Option.bind_some]
    have e1 : strs? (((p :: r)).map encL) = none := rfl
    rw [e1]
    simp only [strTups_locks]
    have h2 : (((p :: r)).map fun p => [p.1, p.2]).Nodup := nodup_map (fun x y e => by
      simp only [List.cons.injEq, and_true] at e
      exact Prod.ext e.1 e.2) h
    rw [if_pos (by simp only [List.length_map]; omega), dedup_nd h2]
    simp only [List.length_map]
abbrev mostD (t : Tr) : DL.D := dOf t.names fun n => .int (t.mostOf n)
theorem e_are_locks {t : Tr} (h : WF t) : f_are_locks [.d (.tup (t.locks.map encL)), .d (mostD t)] = .ret (.bl true) false := by
  have k1 := lenSet_locks h.lnd h.llen
  have z : t.locks.length ≤ sizeL := Nat.le_trans h.llen (by decide)
  (unfold f_are_locks; apply DL.fn_ev; (focus (simp only [DL.wipeSl, DL.backSl, DL.gSet, DL.gTups, DL.gSets, DL.storeRv, List.set_cons_zero, List.set_cons_succ, List.getElem?_cons_zero, List.getElem?_cons_succ, DL.Slot.mine, DL.Slot.ofArg, Bool.false_eq_true, if_true, if_false, List.map_cons, List.map_nil, List.length_cons, List.length_nil, List.replicate, List.cons_append, List.nil_append, Nat.reduceSub, Nat.reduceAdd, DL.parSlot] <;> rfl)); (focus (unfold s_are_locks; exists ())))
  · apply s_seq
    · apply s_for
      focus (exists ())
      focus (exists ())
      refine for_same _ fun l hl => ?_
      have b := h.lock l hl
      have e2 : itemsOf (encL l) = some ([l.1, l.2].map DL.D.str) := rfl
      apply turn_ev
      focus (exists ())
      focus (exists e2)
      · have e3 : ([l.1, l.2].all fun x => true && decide (x ∈ t.names)) = true := by
          simp only [List.all_cons, List.all_nil, decide_eq_true b.1, decide_eq_true b.2.1, Bool.and_self]
        rw [e3]; rfl
      · (exists ())
    · (exists k1, z)
  · have e : (t.locks.all fun l => strLt l.1 l.2) = true := List.all_eq_true.mpr fun l hl => (h.lock l hl).2.2
    simp [outRes, e]
theorem dict_most {t : Tr} (h : WF t) : opDictP [.lst (t.sks.map fun s => .tup [.str s.name, .int s.most])] = some (.new (mostD t)) := by
  have := op_dict (ps := t.sks.map fun s => (s.name, DL.D.int s.most)) (L := fun n => .int (t.mostOf n)) (by simpa [List.map_map, Function.comp_def] using h.nd) fun p hp => by
    obtain ⟨s, hs, rfl⟩ := List.mem_map.mp hp
    simp only [h.mostOf hs]
  simpa [List.map_map, Function.comp_def] using this
theorem e_is_tree {t : Tr} (h : WF t) : f_is_tree [.d (encT t)] = .ret (.bl true) false := by
  have k0 : ∀ s ∈ t.sks, f_is_skill [.d (encSk s)] = .ret (.bl true) false := fun s hs => e_is_skill h hs
  have i0 : itemsOf (encT t) = some ([t.sks.map encSk, t.locks.map encL].map DL.D.tup) := rfl
  have l0 : opLen [mostD t] = some (.dat (.int t.sks.length)) := by simp [opLen, dOf, Tr.names]
  have p := h.pos
  have q := h.len
  (unfold f_is_tree; apply DL.fn_ev; (focus (simp only [DL.wipeSl, DL.backSl, DL.gSet, DL.gTups, DL.gSets, DL.storeRv, List.set_cons_zero, List.set_cons_succ, List.getElem?_cons_zero, List.getElem?_cons_succ, DL.Slot.mine, DL.Slot.ofArg, Bool.false_eq_true, if_true, if_false, List.map_cons, List.map_nil, List.length_cons, List.length_nil, List.replicate, List.cons_append, List.nil_append, Nat.reduceSub, Nat.reduceAdd, DL.parSlot] <;> rfl)); (focus (unfold s_is_tree; exists i0, k0 _ ‹_›, h.size, dict_most h, l0)))
  · apply s_seq
    · apply s_for
      focus (exists ())
      focus (exists ())
      refine for_same _ fun s hs => ?_
      apply turn_ev
      focus (exists ())
      focus (exists h.wsize hs, h.wmem hs ‹_›)
      · have e : ∀ w ∈ s.wants, w.1 ∈ t.names ∧ w.2 ≤ t.mostOf w.1 := fun w hw => by
          obtain ⟨_, s', hs', e, hl⟩ := h.want s hs w hw
          exact ⟨h.wmem hs hw, by rw [← e, h.mostOf hs']; exact hl⟩
        have e2 : (s.wants.all fun w => decide (w.1 ∈ t.names) && decide (w.2 ≤ t.mostOf w.1)) = true := List.all_eq_true.mpr fun w hw => by simp only [e w hw, decide_true, Bool.and_self]
        rw [e2]; rfl
      · (exists ())
    · (exists e_has_no_ring h, e_are_locks h)
  · simp [outRes]
    rw [if_neg (by omega)]
theorem e_need_tree {t : Tr} (h : WF t) : f_need_tree [.d (encT t)] = .ret .non false := by
  (unfold f_need_tree; apply DL.fn_ev; (focus (simp only [DL.wipeSl, DL.backSl, DL.gSet, DL.gTups, DL.gSets, DL.storeRv, List.set_cons_zero, List.set_cons_succ, List.getElem?_cons_zero, List.getElem?_cons_succ, DL.Slot.mine, DL.Slot.ofArg, Bool.false_eq_true, if_true, if_false, List.map_cons, List.map_nil, List.length_cons, List.length_nil, List.replicate, List.cons_append, List.nil_append, Nat.reduceSub, Nat.reduceAdd, DL.parSlot] <;> rfl)); (focus (unfold s_need_tree; exists e_is_tree h)))
  rfl
theorem e_need_name {t : Tr} (h : WF t) {n : Str} (hn : n ∈ t.names) : f_need_name [.d (encT t), .d (.str n)] = .ret .non false := by
  have k : opNotIn (.str n) (.lst (t.sks.map fun s => .str s.name)) = some (.dat (.bl (!decide (n ∈ t.names)))) := by
    have := op_notIn eqT_str (l := t.names) (h.okn hn) (fun y hy => h.okn hy) (by decide)
    simpa [List.map_map, Function.comp_def] using this
  (unfold f_need_name; apply DL.fn_ev; (focus (simp only [DL.wipeSl, DL.backSl, DL.gSet, DL.gTups, DL.gSets, DL.storeRv, List.set_cons_zero, List.set_cons_succ, List.getElem?_cons_zero, List.getElem?_cons_succ, DL.Slot.mine, DL.Slot.ofArg, Bool.false_eq_true, if_true, if_false, List.map_cons, List.map_nil, List.length_cons, List.length_nil, List.replicate, List.cons_append, List.nil_append, Nat.reduceSub, Nat.reduceAdd, DL.parSlot] <;> rfl)); (focus (unfold s_need_name; exists e_names_of h, k)))
  rw [decide_eq_true hn]; rfl
end SK
end
section
set_option linter.all false
set_option maxRecDepth 100000
set_option autoImplicit false
namespace SK
open PySem DL SM
/-- a row of names, its last one apart -/
abbrev Row := List Str × Str
abbrev Row.all (p : Row) : List Str := p.1 ++ [p.2]
abbrev encR (p : Row) : DL.D := .lst ((p.1 ++ [p.2]).map DL.D.str)
/-- the names that a skill wants, in turn -/
def Tr.succ (t : Tr) (n : Str) : List Str := ((t.sk? n).map fun s => s.wants.map (·.1)).getD []
theorem WF.succ {t : Tr} (h : WF t) {s : Sk} (hs : s ∈ t.sks) : t.succ s.name = s.wants.map (·.1) := by
  unfold Tr.succ; rw [h.find hs]; rfl
abbrev bfsW (p : Row) (a : List Str × List Row) (w : Str) : List Str × List Row := if w ∈ a.1 then a else (a.1 ++ [w], a.2 ++ [(p.1 ++ [p.2], w)])
abbrev bfsR (t : Tr) (other : Str) (a : List Str × List Row) (p : Row) : Except (DL.D × Bool) (List Str × List Row) :=
  if p.2 = other then .error (encR p, false) else .ok ((t.succ p.2).foldl (bfsW p) a)
abbrev seenD (l : List Str) : DL.D := dOf l fun _ => .bl true
structure BP (t : Tr) (n : Nat) (a : List Str × List Row) : Prop where
  nd : a.1.Nodup
  sub : ∀ v ∈ a.1, v ∈ t.names
  len : a.2.length ≤ a.1.length
  row : ∀ q ∈ a.2, q.2 ∈ t.names ∧ q.1.length ≤ n ∧ ∀ x ∈ q.1, x ∈ t.names
theorem BP.six {t : Tr} (h : WF t) {n : Nat} {a : List Str × List Row} (p : BP t n a) : a.1.length ≤ 6 := by
  have := nodup_sub p.nd p.sub
  have := h.len
  have e : t.names.length = t.sks.length := List.length_map ..
  omega
theorem bfsW_P {t : Tr} {n : Nat} {a : List Str × List Row} (p : BP t n a) {r : Row} (hr : r.1.length + 1 ≤ n) (hr2 : r.2 ∈ t.names ∧ ∀ x ∈ r.1, x ∈ t.names) {w : Str} (hw : w ∈ t.names) : BP t n (bfsW r a w) := by
  unfold bfsW
  split
  · exact p
  · rename_i hn
    refine ⟨?_, ?_, ?_, ?_⟩
    · rw [List.nodup_append]
      refine ⟨p.nd, by simp, ?_⟩
      intro x hx y hy
      simp only [List.mem_singleton] at hy
      subst hy
      exact fun e => hn (e ▸ hx)
    · intro v hv
      rcases List.mem_append.mp hv with m | m
      · exact p.sub v m
      · simp only [List.mem_singleton] at m; exact m ▸ hw
    · simp only [List.length_append, List.length_singleton]
      have := p.len
      omega
    · intro q hq
      rcases List.mem_append.mp hq with m | m
      · exact p.row q m
      · simp only [List.mem_singleton] at m
        subst m
        refine ⟨hw, by simpa using hr, fun x hx => ?_⟩
        rcases List.mem_append.mp hx with m | m
        · exact hr2.2 x m
        · exact List.mem_singleton.mp m ▸ hr2.1
theorem mm_seen {l : List Str} {n : Str} (hl : l.length < sizeL) (hn : n ∉ l) : mmPut (seenD l) [.bl true, .str n] = some (seenD (l ++ [n])) := by
  rw [mm_put hl, if_neg hn]
  congr 2
  funext m
  unfold upd
  split <;> rfl
theorem chain_w {t : Tr} (h : WF t) {s : Sk} (hs : s ∈ t.sks) {nm ot : DL.D} {s3 : Slot} {r : Row} {n : Nat} (hr : r.1.length + 1 ≤ n) (hr2 : r.2 ∈ t.names ∧ ∀ x ∈ r.1, x ∈ t.names) (hn : n ≤ 100) {l : DL.D} (a : List Str × List Row) (p : BP t n a) :
    forLoop [8, 9] (gTups [8, 9]) b_chain_3 (s.wants.map encW) [.val (encT t), .val nm, .val ot, s3, .own (seenD a.1), .own (.lst (a.2.map encR)), .val (encR r), .val l, .no, .no, .no] =
    .nx [.val (encT t), .val nm, .val ot, s3, .own (seenD ((s.wants.map (·.1)).foldl (bfsW r) a).1), .own (.lst (((s.wants.map (·.1)).foldl (bfsW r) a).2.map encR)), .val (encR r), .val l, .no, .no, .no] ∧ BP t n ((s.wants.map (·.1)).foldl (bfsW r) a) := by
  have W := for_fold (dead := [8, 9]) (g := gTups [8, 9]) (b := b_chain_3) (enc := encW) (S := fun a : List Str × List Row => [.val (encT t), .val nm, .val ot, s3, .own (seenD a.1), .own (.lst (a.2.map encR)), .val (encR r), .val l, .no, .no, .no]) (step := fun a w => bfsW r a w.1) (fun _ a => BP t n a) s.wants 0 a p ?_
  · rw [List.foldl_map]
    exact W
  · intro i w a hw p
    have hw : w ∈ s.wants := List.mem_of_getElem? hw
    have q := p.six h
    have ql := p.len
    refine ⟨?_, bfsW_P p hr hr2 (h.wmem hs hw)⟩
    by_cases c : w.1 ∈ a.1
    · have e : bfsW r a w.1 = a := if_pos c
      rw [e]
      have c2 : opNotIn (.str w.1) (seenD a.1) = some (.dat (.bl false)) := by rw [op_notInD]; simp [c]
      apply turn_nx
      focus (exists ())
      focus
        apply s_ifF
        focus (exists c2)
        focus (exists ())
      focus (exists ())
    · have e : bfsW r a w.1 = (a.1 ++ [w.1], a.2 ++ [(r.1 ++ [r.2], w.1)]) := if_neg c
      rw [e]
      have c2 : opNotIn (.str w.1) (seenD a.1) = some (.dat (.bl true)) := by rw [op_notInD]; simp [c]
      have c3 := mm_seen (l := a.1) (n := w.1) (by simp only [sizeL]; omega) c
      have c4 : opAdd (encR r) (.lst [.str w.1]) = some (.new (encR (r.1 ++ [r.2], w.1))) := by
        rw [op_addL (by simp only [List.length_map, List.length_append, List.length_singleton, sizeL]; omega)]
        simp
      have c5 : mmAppend (.lst (a.2.map encR)) [encR (r.1 ++ [r.2], w.1)] = some (.lst ((a.2 ++ [(r.1 ++ [r.2], w.1)]).map encR)) := by
        rw [mm_app (by simp only [List.length_map, sizeL]; omega)]
        simp
      apply turn_nx
      focus (exists ())
      focus
        apply s_ifT
        focus (exists c2)
        focus (exists c3, c4, c5)
      focus (exists ())
abbrev chS (t : Tr) (nm ot : Str) (s3 : Slot) (a : List Str × List Row) : Sl := [.val (encT t), .val (.str nm), .val (.str ot), s3, .own (seenD a.1), .own (.lst (a.2.map encR)), .no, .no, .no, .no, .no]
theorem chain_r {t : Tr} (h : WF t) {nm ot : Str} (hot : ot ∈ t.names) {s3 : Slot} {n : Nat} (hn : n + 1 ≤ 100) (rows : List Row) (hrows : ∀ q ∈ rows, q.2 ∈ t.names ∧ q.1.length ≤ n ∧ ∀ x ∈ q.1, x ∈ t.names) (a : List Str × List Row) (p : BP t (n + 1) a) :
    exSt (BP t (n + 1)) (chS t nm ot s3) (forLoop [6, 7, 8, 9] (gSet 6) b_chain_2 (rows.map encR) (chS t nm ot s3 a)) (rows.foldlM (bfsR t ot) a) := by
  refine for_ex (BP t (n + 1)) rows a p ?_
  intro r hr a p
  obtain ⟨hm, hl, hx⟩ := hrows r hr
  obtain ⟨s, hs, e⟩ := List.mem_map.mp hm
  have k1 : opIx (encR r) (.int (-1)) = some (.dat (.str r.2)) := op_ixl (atD_last (by simp))
  have k2 : opEq (.str r.2) (.str ot) = some (.dat (.bl (decide (r.2 = ot)))) := op_eqS (h.okn hm) (h.okn hot)
  unfold bfsR
  by_cases c : r.2 = ot
  · rw [if_pos c]
    have k3 : opEq (.str r.2) (.str ot) = some (.dat (.bl true)) := by rw [k2, decide_eq_true c]
    show turn _ _ _ _ _ = .rt (encR r) false
    apply turn_rt
    focus (exists ())
    focus
      apply s_seqR
      apply s_ifT
      focus (exists k1, k3)
      focus (exists ())
  · rw [if_neg c]
    rw [← e, h.succ hs] at *
    have W := chain_w h hs (nm := .str nm) (ot := .str ot) (s3 := s3) (r := r) (n := n + 1) (by omega) ⟨hm, hx⟩ hn (l := .tup (s.wants.map encW)) a p
    refine ⟨?_, W.2⟩
    have k3 : opEq (.str s.name) (.str ot) = some (.dat (.bl false)) := by rw [k2]; simp [c]
    have k4 : ∀ s' ∈ t.sks, opEq (.str s'.name) (.str s.name) = some (.dat (.bl (decide (s'.name = s.name)))) := fun s' hs' => op_eqS (h.oks hs') (h.oks hs)
    have k5 : opIx (.lst ((t.sks.filter fun x => decide (x.name = s.name)).map fun s => .tup (s.wants.map encW))) (.int 0) = some (.dat (.tup (s.wants.map encW))) := by
      rw [h.filt hs]
      exact op_ixl0
    apply turn_nx
    focus (exists ())
    focus
      apply s_seq
      focus
        apply s_ifF
        focus (exists k1, k3)
        focus (exists ())
      (exists k1, k4 _ ‹_›, k5, h.size)
      focus
        apply s_for
        focus (exists ())
        focus (exists ())
        exact W.1
    focus (exists ())
end SK
end
section
set_option linter.all false
set_option maxRecDepth 100000
set_option autoImplicit false
namespace SK
open PySem DL SM
abbrev bfsF (t : Tr) (a : List Str × List Row) (p : Row) : List Str × List Row := (t.succ p.2).foldl (bfsW p) a
abbrev bfsStep (t : Tr) (rows : List Row) (seen : List Str) : List Str × List Row := rows.foldl (bfsF t) (seen, [])
def bfs (t : Tr) (ot : Str) : Nat → List Row → List Str → Option Row
  | 0, _, _ => none
  | k + 1, rows, seen => match rows.find? fun p => decide (p.2 = ot) with
    | some p => some p
    | none => bfs t ot k (bfsStep t rows seen).2 (bfsStep t rows seen).1
theorem bfsM {t : Tr} {ot : Str} : ∀ (rows : List Row) (a : List Str × List Row), rows.foldlM (bfsR t ot) a = match rows.find? fun p => decide (p.2 = ot) with
    | some p => .error (encR p, false)
    | none => .ok (rows.foldl (bfsF t) a)
  | [], a => rfl
  | p :: r, a => by
    rw [List.foldlM_cons, List.find?_cons]
    unfold bfsR
    by_cases c : p.2 = ot
    · simp only [c, if_true, decide_true]
      rfl
    · simp only [c, if_false, decide_false, List.foldl_cons]
      exact bfsM r _
theorem bfsW_len {r : Row} : ∀ (l : List Str) (a : List Str × List Row), (l.foldl (bfsW r) a).1.length + a.2.length = a.1.length + (l.foldl (bfsW r) a).2.length
  | [], a => rfl
  | w :: l, a => by
    rw [List.foldl_cons]
    have := bfsW_len (r := r) l (bfsW r a w)
    by_cases c : w ∈ a.1
    · have e : bfsW r a w = a := if_pos c
      rw [e] at this ⊢
      exact this
    · have e : bfsW r a w = (a.1 ++ [w], a.2 ++ [(r.1 ++ [r.2], w)]) := if_neg c
      rw [e] at this ⊢
      simp only [List.length_append, List.length_singleton] at this
      omega
theorem bfsF_len {t : Tr} : ∀ (l : List Row) (a : List Str × List Row), (l.foldl (bfsF t) a).1.length + a.2.length = a.1.length + (l.foldl (bfsF t) a).2.length
  | [], a => rfl
  | r :: l, a => by
    rw [List.foldl_cons]
    have := bfsF_len (t := t) l (bfsF t a r)
    have : (bfsF t a r).1.length + a.2.length = a.1.length + (bfsF t a r).2.length := bfsW_len (r := r) (t.succ r.2) a
    omega
abbrev rowsSlot (b : Bool) (rows : List Row) : Slot := if b = true then .val (.lst (rows.map encR)) else .own (.lst (rows.map encR))
abbrev whS (t : Tr) (nm ot : Str) (b : Bool) (rows : List Row) (seen : List Str) : Sl := [.val (encT t), .val (.str nm), .val (.str ot), rowsSlot b rows, .own (seenD seen), .no, .no, .no, .no, .no, .no]
theorem eqT_r : EqT encR (fun r => ∀ x ∈ r.1 ++ [r.2], okStr x = true) 1 := by
  have e := eqT_str.lst
  refine ⟨fun r h => e.laid _ h, fun r => e.dep _, fun x y => ?_, fun _ => rfl⟩
  have := e.eqv (x.1 ++ [x.2]) (y.1 ++ [y.2])
  refine this.trans (decide_eq_decide.mpr ?_)
  constructor
  · intro h
    have h2 := List.append_inj' h rfl
    exact Prod.ext h2.1 (by simpa using h2.2)
  · intro h; rw [h]
theorem rowsNe {rows : List Row} : opEq0 (.lst (rows.map encR)) (.lst []) = some (decide (rows = [])) ∨ True := .inr trivial
/-- != against [] needs no okStr of the items but laid -/
theorem ne_nil {ds : List DL.D} (h : DL.D.laids ds = true) : opNe (.lst ds) (.lst []) = some (.dat (.bl (!decide (ds = [])))) := by
  have e : DL.D.eqv (.lst ds) (.lst []) = decide (ds = []) := by cases ds <;> rfl
  have d : DL.D.dep (.lst []) = 1 := rfl
  have f : opEq0 (.lst ds) (.lst []) = some (decide (ds = [])) := by
    unfold opEq0
    rw [if_pos ⟨h, rfl, by rw [d]; omega⟩, e]
  show (opEq0 (.lst ds) (.lst [])).map _ = _
  rw [f]
  rfl
theorem chain_wh {t : Tr} (h : WF t) {nm ot : Str} (hot : ot ∈ t.names) : ∀ (k : Nat) (b : Bool) (rows : List Row) (seen : List Str) (n : Nat), n + k ≤ 50 → 1 ≤ k → (rows ≠ [] → 8 ≤ k + seen.length) → BP t n (seen, rows) →
    ∃ o, whileLoop [5, 6, 7, 8, 9] (mtVal (mBin opNe (mVar 3) (mLst maNil))) b_chain_1 k (whS t nm ot b rows seen) = o ∧ match bfs t ot k rows seen with
      | some p => o = .rt (encR p) false
      | none => ∃ sl, o = .nx sl
  | 0, _, _, _, _, _, h1, _, _ => by omega
  | k + 1, b, rows, seen, n, hk, _, hf, p => by
    refine ⟨_, rfl, ?_⟩
    rw [while_succ]
    have ld : DL.D.laids (rows.map encR) = true := laids_map fun q hqm => eqT_r.laid q fun x hx => by
      rcases List.mem_append.mp hx with m | m
      · exact h.okn ((p.row q hqm).2.2 x m)
      · exact List.mem_singleton.mp m ▸ h.okn (p.row q hqm).1
    have k1 := ne_nil ld
    by_cases c : rows = []
    · subst c
      have k2 : opNe (.lst []) (.lst []) = some (.dat (.bl false)) := rfl
      have e : bfs t ot (k + 1) [] seen = none := by
        have : ∀ k seen, bfs t ot k [] seen = none := fun k => by
          induction k with
          | zero => intro; rfl
          | succ k ih => intro s; exact ih _
        exact this _ _
      rw [e]
      simp only
      have T : Et (mtVal (mBin opNe (mVar 3) (mLst maNil))) (whS t nm ot b [] seen) false (whS t nm ot b [] seen) := by
        cases b <;> (exists k2)
      rw [wturn_nx T]
      exact ⟨_, rfl⟩
    · have k2 : opNe (.lst (rows.map encR)) (.lst []) = some (.dat (.bl true)) := by rw [k1]; simp [c]
      have T : Et (mtVal (mBin opNe (mVar 3) (mLst maNil))) (whS t nm ot b rows seen) true (whS t nm ot b rows seen) := by
        cases b <;> (exists k2)
      have R := chain_r h (nm := nm) hot (s3 := .val (.lst (rows.map encR))) (n := n) (by omega) rows p.row (seen, []) ⟨p.nd, p.sub, Nat.zero_le _, nofun⟩
      rw [bfsM] at R
      unfold bfs
      cases e : rows.find? fun p => decide (p.2 = ot) with
      | some q =>
        rw [e] at R
        have R : forLoop _ _ _ _ _ = .rt (encR q) false := R
        simp only
        have B : Es b_chain_1 (whS t nm ot b rows seen) (.rt (encR q) false) := by
          cases b <;> ((exists ()); apply s_seqR; apply s_for; (focus (exists ())); (focus (exists ())); exact R)
        rw [wturn_rt T B]
      | none =>
        rw [e] at R
        obtain ⟨R, p'⟩ := R
        simp only
        have B : Es b_chain_1 (whS t nm ot b rows seen) (.nx [.val (encT t), .val (.str nm), .val (.str ot), .val (.lst ((bfsStep t rows seen).2.map encR)), .own (seenD (bfsStep t rows seen).1), .val (.lst ((bfsStep t rows seen).2.map encR)), .no, .no, .no, .no, .no]) := by
          cases b <;> ((exists ()); apply s_seq; (focus (apply s_for; (focus (exists ())); (focus (exists ())); exact R)); (exists ()))
        rw [wturn_ct T B (sl3 := whS t nm ot true (bfsStep t rows seen).2 (bfsStep t rows seen).1) rfl]
        simp only
        have l1 := bfsF_len (t := t) rows (seen, [])
        have p6 := p'.six h
        have c6 := hf c
        obtain ⟨o, ho, hm⟩ := chain_wh h (nm := nm) hot k true (bfsStep t rows seen).2 (bfsStep t rows seen).1 (n + 1) (by omega) (by have := p.six h; simp only at this; omega) (fun hne => by
          have := List.length_pos_iff.mpr hne
          have l2 : (bfsStep t rows seen).1.length + 0 = seen.length + (bfsStep t rows seen).2.length := l1
          omega) p'
        rw [ho]
        exact hm
end SK
end
section
set_option linter.all false
set_option maxRecDepth 100000
set_option autoImplicit false
namespace SK
open PySem DL SM
def chainO (t : Tr) (nm ot : Str) : Option Row := bfs t ot 12 [([], nm)] [nm]
def encO : Option Row → DL.D
  | some p => encR p
  | none => .non
theorem e_chain {t : Tr} (h : WF t) {nm ot : Str} (hn : nm ∈ t.names) (ho : ot ∈ t.names) : f_chain [.d (encT t), .d (.str nm), .d (.str ot)] = .ret (encO (chainO t nm ot)) false := by
  obtain ⟨o, W, hm⟩ := chain_wh h (nm := nm) ho 12 false [([], nm)] [nm] 0 (by omega) (by omega) (fun _ => by simp) ⟨by simp, by simpa using hn, by simp, by simpa using hn⟩
  unfold chainO
  cases e : bfs t ot 12 [([], nm)] [nm] with
  | some p =>
    rw [e] at hm
    simp only at hm
    subst hm
    (unfold f_chain; apply DL.fn_ev; (focus (simp only [DL.wipeSl, DL.backSl, DL.gSet, DL.gTups, DL.gSets, DL.storeRv, List.set_cons_zero, List.set_cons_succ, List.getElem?_cons_zero, List.getElem?_cons_succ, DL.Slot.mine, DL.Slot.ofArg, Bool.false_eq_true, if_true, if_false, List.map_cons, List.map_nil, List.length_cons, List.length_nil, List.replicate, List.cons_append, List.nil_append, Nat.reduceSub, Nat.reduceAdd, DL.parSlot] <;> rfl)); (focus (unfold s_chain; exists e_need_tree h, e_need_name h hn, e_need_name h ho)))
    · apply s_seqR
      apply s_while
      · (exists ())
      · exact W
    · rfl
  | none =>
    rw [e] at hm
    obtain ⟨sl, rfl⟩ := hm
    (unfold f_chain; apply DL.fn_ev; (focus (simp only [DL.wipeSl, DL.backSl, DL.gSet, DL.gTups, DL.gSets, DL.storeRv, List.set_cons_zero, List.set_cons_succ, List.getElem?_cons_zero, List.getElem?_cons_succ, DL.Slot.mine, DL.Slot.ofArg, Bool.false_eq_true, if_true, if_false, List.map_cons, List.map_nil, List.length_cons, List.length_nil, List.replicate, List.cons_append, List.nil_append, Nat.reduceSub, Nat.reduceAdd, DL.parSlot] <;> rfl)); (focus (unfold s_chain; exists e_need_tree h, e_need_name h hn, e_need_name h ho)))
    · apply s_seq
      apply s_while
      · (exists ())
      · exact W
      · (exists ())
    · rfl
theorem o_isNot {o : Option Row} : opIsNot (encO o) .non = some (.dat (.bl o.isSome)) := by cases o <;> rfl
abbrev wantingL (t : Tr) (ot : Str) : List Str := t.names.filter fun n => !decide (n = ot) && (chainO t n ot).isSome
theorem e_wanting {t : Tr} (h : WF t) {ot : Str} (ho : ot ∈ t.names) : f_wanting [.d (encT t), .d (.str ot)] = .ret (.lst ((wantingL t ot).map DL.D.str)) true := by
  have k1 : f_names_of [.d (encT t)] = .ret (.lst (t.names.map DL.D.str)) true := by rw [e_names_of h, List.map_map]; rfl
  have k2 : ∀ n ∈ t.names, opNe (.str n) (.str ot) = some (.dat (.bl (!decide (n = ot)))) := fun n hn => op_neS (h.okn hn) (h.okn ho)
  have z : t.names.length ≤ sizeL := by simpa using h.size
  (unfold f_wanting; apply DL.fn_ev; (focus (simp only [DL.wipeSl, DL.backSl, DL.gSet, DL.gTups, DL.gSets, DL.storeRv, List.set_cons_zero, List.set_cons_succ, List.getElem?_cons_zero, List.getElem?_cons_succ, DL.Slot.mine, DL.Slot.ofArg, Bool.false_eq_true, if_true, if_false, List.map_cons, List.map_nil, List.length_cons, List.length_nil, List.replicate, List.cons_append, List.nil_append, Nat.reduceSub, Nat.reduceAdd, DL.parSlot] <;> rfl)); (focus (unfold s_wanting; exists e_need_tree h, e_need_name h ho, k1, k2 _ ‹_›, e_chain h ‹_› ho, o_isNot, z)))
  rfl
end SK
end
section
set_option linter.all false
set_option maxRecDepth 100000
set_option autoImplicit false
namespace SK
open PySem DL SM
theorem opMul_b {i j : Int} (h1 : 0 ≤ i ∧ i < 2 ^ 400) (h2 : 0 ≤ j ∧ j < 2 ^ 400) : opMul (.int i) (.int j) = some (.dat (.int (i * j))) := by
  unfold opMul
  refine if_pos ?_
  unfold okMul
  rw [Bool.or_eq_true]
  refine .inr (decide_eq_true ?_)
  have lg : ∀ x : Int, 0 ≤ x → x < 2 ^ 400 → x.natAbs.log2 < 401 := fun x a b => by
    by_cases z : x.natAbs = 0
    · rw [z]; decide
    · refine (Nat.log2_lt z).mpr ?_
      have : x.natAbs < 2 ^ 400 := by omega
      omega
  have := lg i h1.1 h1.2
  have := lg j h2.1 h2.2
  omega
def drawnA (c k : Int) : Int := (c * 6364136223846793005 + (k + 1) * 1442695040888963407) % 340282366920938463463374607431768211507
def drawnB (m : Int) : Int := m * m % 340282366920938463463374607431768211297
def drawnC (m : Int) : Int := ((m % 18446744073709551557 + 1) * (m / 18446744073709551557 + 1) * m) % 340282366920938463463374607431768211507
def drawnI (c k : Int) : Int := drawnC (drawnB (drawnA c k))
theorem drawn_nn (c k : Int) : 0 ≤ drawnI c k := by
  unfold drawnI drawnC
  exact Int.emod_nonneg _ (by decide)
theorem e_drawn (c k : Int) : f__law_drawn [.d (.int c), .d (.int k)] = .ret (.int (drawnI c k)) false := by
  have a1 : 0 ≤ drawnA c k ∧ drawnA c k < 2 ^ 129 := by unfold drawnA; omega
  have b1 : 0 ≤ drawnB (drawnA c k) ∧ drawnB (drawnA c k) < 2 ^ 129 := by unfold drawnB; omega
  have m1 : opMul (.int (drawnA c k)) (.int (drawnA c k)) = some (.dat (.int (drawnA c k * drawnA c k))) := opMul_b (by omega) (by omega)
  have n1 := @op_mulr c 6364136223846793005 (by decide)
  have n2 := @op_mulr (k + 1) 1442695040888963407 (by decide)
  generalize hb : drawnB (drawnA c k) = b at b1
  have m2 : opMul (.int (b % 18446744073709551557 + 1)) (.int (b / 18446744073709551557 + 1)) = some (.dat (.int ((b % 18446744073709551557 + 1) * (b / 18446744073709551557 + 1)))) := opMul_b (by omega) (by omega)
  have m3 : opMul (.int ((b % 18446744073709551557 + 1) * (b / 18446744073709551557 + 1))) (.int b) = some (.dat (.int ((b % 18446744073709551557 + 1) * (b / 18446744073709551557 + 1) * b))) := opMul_b (by
    constructor
    · exact Int.mul_nonneg (by omega) (by omega)
    · have h1 : b % 18446744073709551557 + 1 ≤ 2 ^ 64 := by omega
      have h2 : b / 18446744073709551557 + 1 ≤ 2 ^ 129 := by omega
      have := Int.mul_le_mul h1 h2 (by omega) (by omega)
      omega) (by omega)
  have n3 : opFdiv (.int b) (.int 18446744073709551557) = some (.dat (.int (b / 18446744073709551557))) := op_fdiv (by decide) (by decide)
  have q1 : opMod (.int (c * 6364136223846793005 + (k + 1) * 1442695040888963407)) (.int 340282366920938463463374607431768211507) = some (.dat (.int (drawnA c k))) := op_mod (by decide)
  have q2 : opMod (.int (drawnA c k * drawnA c k)) (.int 340282366920938463463374607431768211297) = some (.dat (.int b)) := by rw [← hb]; exact op_mod (by decide)
  have q3 : opMod (.int ((b % 18446744073709551557 + 1) * (b / 18446744073709551557 + 1) * b)) (.int 340282366920938463463374607431768211507) = some (.dat (.int (drawnC b))) := op_mod (by decide)
  have q4 : opMod (.int b) (.int 18446744073709551557) = some (.dat (.int (b % 18446744073709551557))) := op_mod (by decide)
  (unfold f__law_drawn; apply DL.fn_ev; (focus (simp only [DL.wipeSl, DL.backSl, DL.gSet, DL.gTups, DL.gSets, DL.storeRv, List.set_cons_zero, List.set_cons_succ, List.getElem?_cons_zero, List.getElem?_cons_succ, DL.Slot.mine, DL.Slot.ofArg, Bool.false_eq_true, if_true, if_false, List.map_cons, List.map_nil, List.length_cons, List.length_nil, List.replicate, List.cons_append, List.nil_append, Nat.reduceSub, Nat.reduceAdd, DL.parSlot] <;> rfl)); (focus (unfold s__law_drawn; exists n1, n2, n3, m1, m2, m3, q1, q2, q3, q4)))
  unfold drawnI
  rw [hb]
  rfl
/-- the script's number at k: some number -/
theorem e_cell (ns : List Int) (k : Nat) (hl : ns.length ≤ 63) : ∃ c, f__law_cell [.d (.scr ns), .d (.int k)] = .ret (.int c) false := by
  have k1 : opEq (.scr ns) (.lst []) = some (.dat (.bl (decide (ns = [])))) := by
    show opEq (.lst (ns.map DL.D.int)) (.lst ([].map DL.D.int)) = _
    exact op_eq eqT_int.lst (fun _ _ => trivial) nofun (by decide)
  cases ns with
  | nil =>
    have n1 := @op_mulr (k : Int) 7919 (by decide)
    refine ⟨(k : Int) * 7919, ?_⟩
    (unfold f__law_cell; apply DL.fn_ev; (focus (simp only [DL.wipeSl, DL.backSl, DL.gSet, DL.gTups, DL.gSets, DL.storeRv, List.set_cons_zero, List.set_cons_succ, List.getElem?_cons_zero, List.getElem?_cons_succ, DL.Slot.mine, DL.Slot.ofArg, Bool.false_eq_true, if_true, if_false, List.map_cons, List.map_nil, List.length_cons, List.length_nil, List.replicate, List.cons_append, List.nil_append, Nat.reduceSub, Nat.reduceAdd, DL.parSlot] <;> rfl)); (focus (unfold s__law_cell; skip)))
    · apply s_seqR
      apply s_ifT
      focus (exists k1)
      focus (exists n1)
    · rfl
  | cons a r =>
    have hl' : (r.length : Int) + 1 ≤ 63 := by simp at hl; omega
    have hi : k % (a :: r).length < (a :: r).length := Nat.mod_lt _ (by simp)
    have e1 : ((k : Int) % (((a :: r).length : Nat) : Int)) = ((k % (a :: r).length : Nat) : Int) := by simp
    have n1 : opIx (.scr (a :: r)) (.int ((k : Int) % (((a :: r).length : Nat) : Int))) = some (.dat (.int ((a :: r).getD (k % (a :: r).length) 0))) := by
      rw [e1]
      show (atD (a :: r) _).map _ = _
      rw [atD_nat (x := (a :: r).getD (k % (a :: r).length) 0) (by rw [List.getD_eq_getElem?_getD, List.getElem?_eq_getElem hi]; rfl)]
      rfl
    have n2 : opFdiv (.int k) (.int (((a :: r).length : Nat) : Int)) = some (.dat (.int ((k : Int) / (((a :: r).length : Nat) : Int)))) := op_fdiv (by simp only [List.length_cons]; omega) (by simp only [List.length_cons]; omega)
    have n3 : opMod (.int k) (.int (((a :: r).length : Nat) : Int)) = some (.dat (.int ((k : Int) % (((a :: r).length : Nat) : Int)))) := op_mod (by simp only [List.length_cons]; omega)
    have n4 := @op_mulr ((k : Int) / (((a :: r).length : Nat) : Int)) 104729 (by decide)
    have n5 : opLen [.scr (a :: r)] = some (.dat (.int (((a :: r).length : Nat) : Int))) := rfl
    have k2 : opEq (.scr (a :: r)) (.lst []) = some (.dat (.bl false)) := by rw [k1]; simp
    refine ⟨(a :: r).getD (k % (a :: r).length) 0 + (k : Int) / (((a :: r).length : Nat) : Int) * 104729, ?_⟩
    (unfold f__law_cell; apply DL.fn_ev; (focus (simp only [DL.wipeSl, DL.backSl, DL.gSet, DL.gTups, DL.gSets, DL.storeRv, List.set_cons_zero, List.set_cons_succ, List.getElem?_cons_zero, List.getElem?_cons_succ, DL.Slot.mine, DL.Slot.ofArg, Bool.false_eq_true, if_true, if_false, List.map_cons, List.map_nil, List.length_cons, List.length_nil, List.replicate, List.cons_append, List.nil_append, Nat.reduceSub, Nat.reduceAdd, DL.parSlot] <;> rfl)); (focus (unfold s__law_cell; skip)))
    · apply s_seq
      · apply s_ifF
        focus (exists k2)
        focus (exists ())
      · (exists n1, n2, n3, n4, n5)
    · rfl
end SK
end
section
set_option linter.all false
set_option maxRecDepth 100000
set_option autoImplicit false
namespace SK
open PySem DL SM
abbrev names6 : List Str := ["b", "axe", "c", "zap", "dd", "e"]
theorem strLt6 : ∀ a ∈ names6, ∀ b ∈ names6, a ≠ b → strLt a b = true ∨ strLt b a = true := by decide +kernel
theorem ok6 : ∀ a ∈ names6, okName a = true := by decide +kernel
theorem nd6 : names6.Nodup := by decide +kernel
theorem cut_take {xs : List DL.D} {v : Int} (h : 0 ≤ v) : opCut none (some v) (.lst xs) = some (.new (.lst (xs.take v.toNat))) := by
  unfold opCut
  simp only [cutL, slIx]
  rw [if_neg (by omega)]
  simp [List.take_eq_take_iff]
/-- sorted pair -/
abbrev srt (a b : Str) : Str × Str := if strLe a b = true then (a, b) else (b, a)
theorem sort2 {a b : Str} : opSorted [.lst [.str a, .str b]] = some (.new (.lst [.str (srt a b).1, .str (srt a b).2])) := by
  have e : ints? [.str a, .str b] = none := rfl
  have e2 : strs? [.str a, .str b] = some [a, b] := rfl
  unfold opSorted
  simp only [List.length_cons, List.length_nil, e, e2]
  have e3 : [a, b].mergeSort strLe = if strLe a b = true then [a, b] else [b, a] := by
    unfold List.mergeSort
    simp [List.MergeSort.Internal.splitInTwo, List.mergeSort, List.merge]
  rw [if_pos (by decide), Option.map_some, e3]
  unfold srt
  split <;> rfl
structure WantsP (nms : List Str) (sks : List Sk) (i : Nat) (ws : List (Str × Int)) : Prop where
  nd : (ws.map (·.1)).Nodup
  ok : ∀ w ∈ ws, ∃ n < i, nms[n]? = some w.1 ∧ ∃ s, sks[n]? = some s ∧ 1 ≤ w.2 ∧ w.2 ≤ s.most
theorem wants_snoc {nms : List Str} (hnd : nms.Nodup) {sks : List Sk} {i : Nat} {ws : List (Str × Int)} (p : WantsP nms sks i ws) {x : Str} (hx : nms[i]? = some x) {s : Sk} (hs : sks[i]? = some s) {v : Int} (hv : 1 ≤ v ∧ v ≤ s.most) : WantsP nms sks (i + 1) (ws ++ [(x, v)]) := by
  refine ⟨?_, ?_⟩
  · rw [List.map_append, List.nodup_append]
    refine ⟨p.nd, by simp, ?_⟩
    intro a ha b hb e
    simp only [List.map_cons, List.map_nil, List.mem_singleton] at hb
    subst hb; subst e
    obtain ⟨w, hw, rfl⟩ := List.mem_map.mp ha
    obtain ⟨n, hn, e, _⟩ := p.ok w hw
    have := (List.getElem?_inj (List.getElem?_eq_some_iff.mp e).1 hnd).mp (e.trans hx.symm)
    omega
  · intro w hw
    rcases List.mem_append.mp hw with m | m
    · obtain ⟨n, hn, r⟩ := p.ok w m
      exact ⟨n, by omega, r⟩
    · simp only [List.mem_singleton] at m
      subst m
      exact ⟨i, by omega, hx, s, hs, hv⟩
theorem wants_mono {nms : List Str} {sks : List Sk} {i : Nat} {ws : List (Str × Int)} (p : WantsP nms sks i ws) : WantsP nms sks (i + 1) ws :=
  ⟨p.nd, fun w hw => let ⟨n, hn, r⟩ := p.ok w hw; ⟨n, by omega, r⟩⟩
theorem emod_lt {a b : Int} (h : 0 < b) : 0 ≤ a % b ∧ a % b < b := ⟨Int.emod_nonneg _ (by omega), Int.emod_lt_of_pos _ h⟩
theorem ix3 (m : Int) : ∃ md : Int, 0 < md ∧ opIx (.lst [.int 2, .int 3, .int 5]) (.int (m % 3)) = some (.dat (.int md)) := by
  have := @emod_lt m 3 (by decide)
  have h : m % 3 = 0 ∨ m % 3 = 1 ∨ m % 3 = 2 := by omega
  rcases h with h | h | h <;> rw [h]
  · exact ⟨2, by decide, rfl⟩
  · exact ⟨3, by decide, rfl⟩
  · exact ⟨5, by decide, rfl⟩
theorem tree_w {m most : Int} {nms : List Str} (hnd : nms.Nodup) {sks : List Sk} (hp : ∀ s ∈ sks, 1 ≤ s.most) {j : Nat} (hj : j ≤ sks.length) (hj6 : j ≤ 6) (hl : sks.length ≤ nms.length) {nm : DL.D} {here : Int} :
    ∃ ws, forLoop [9, 11] (gSet 9) b__law_tree_2 ((List.range j).map fun i => .int (i : Nat)) [.val (.int m), .val (.int most), .val (.lst (nms.map DL.D.str)), .own (.lst (sks.map encSk)), .no, .val (.int (j : Nat)), .val nm, .val (.int here), .own (.lst []), .no, .no, .no] =
      .nx [.val (.int m), .val (.int most), .val (.lst (nms.map DL.D.str)), .own (.lst (sks.map encSk)), .no, .val (.int (j : Nat)), .val nm, .val (.int here), .own (.lst (ws.map encW)), .no, .no, .no] ∧ WantsP nms sks j ws ∧ ws.length ≤ j := by
  have W := for_inv (dead := [9, 11]) (g := gSet 9) (b := b__law_tree_2) (enc := fun i : Nat => DL.D.int (i : Nat)) (S := fun ws : List (Str × Int) => [.val (.int m), .val (.int most), .val (.lst (nms.map DL.D.str)), .own (.lst (sks.map encSk)), .no, .val (.int (j : Nat)), .val nm, .val (.int here), .own (.lst (ws.map encW)), .no, .no, .no]) (fun i ws => WantsP nms sks i ws ∧ ws.length ≤ i) (List.range j) 0 [] ⟨⟨List.nodup_nil, nofun⟩, Nat.le_refl _⟩ ?_
  · simpa using W
  · intro i x ws hx ⟨p, hlen⟩
    have hx' := hx
    rw [List.getElem?_range] at hx
    rotate_left
    · have := (List.getElem?_eq_some_iff.mp hx').1
      simpa using this
    cases hx
    have hi : i < j := by
      have := (List.getElem?_eq_some_iff.mp hx').1
      simpa using this
    rw [Nat.zero_add] at p hlen ⊢
    obtain ⟨md, hmd, ek⟩ := ix3 (m / 8)
    obtain ⟨s, es⟩ : ∃ s, sks[i]? = some s := ⟨_, List.getElem?_eq_getElem (by omega)⟩
    obtain ⟨n, en⟩ : ∃ n, nms[i]? = some n := ⟨_, List.getElem?_eq_getElem (by omega)⟩
    have hm := hp s (List.mem_of_getElem? es)
    have k1 : opIx (.lst (nms.map DL.D.str)) (.int (i : Nat)) = some (.dat (.str n)) := op_ixl (atD_nat (by rw [List.getElem?_map, en]; rfl))
    have k2 : opIx (.lst (sks.map encSk)) (.int (i : Nat)) = some (.dat (encSk s)) := op_ixl (atD_nat (by rw [List.getElem?_map, es]; rfl))
    have k3 : mmAppend (.lst (ws.map encW)) [encW (n, 1 + drawnI here (20 + (i : Nat)) / 64 % s.most)] = some (.lst ((ws ++ [(n, 1 + drawnI here (20 + (i : Nat)) / 64 % s.most)]).map encW)) := by
      rw [mm_app (by simp only [List.length_map, sizeL]; omega)]
      simp
    have hv := @emod_lt (drawnI here (20 + (i : Nat)) / 64) s.most (by omega)
    by_cases c : drawnI here (20 + (i : Nat)) % md = 0
    · refine ⟨ws ++ [(n, 1 + drawnI here (20 + (i : Nat)) / 64 % s.most)], ?_, wants_snoc hnd p en es (by omega), by simp only [List.length_append, List.length_singleton]; omega⟩
      have k4 : opMod (.int (drawnI here (20 + (i : Nat)))) (.int md) = some (.dat (.int 0)) := by rw [op_mod hmd, c]
      apply turn_nx
      focus (exists ())
      focus
        (exists e_drawn _ _)
        apply s_ifT
        focus (exists ek, k4)
        (exists k1, k2, k3, op_mod (show 0 < s.most by omega))
      focus (exists ())
    · refine ⟨ws, ?_, wants_mono p, by omega⟩
      have k4 : opMod (.int (drawnI here (20 + (i : Nat)))) (.int md) = some (.dat (.int (drawnI here (20 + (i : Nat)) % md))) := op_mod hmd
      have k5 : opEq (.int (drawnI here (20 + (i : Nat)) % md)) (.int 0) = some (.dat (.bl false)) := by rw [op_eqI]; simp [c]
      apply turn_nx
      focus (exists ())
      focus
        (exists e_drawn _ _)
        apply s_ifF
        focus (exists ek, k4, k5)
        (exists ())
      focus (exists ())
end SK
end
section
set_option linter.all false
set_option maxRecDepth 100000
set_option autoImplicit false
namespace SK
open PySem DL SM
/-- the skills of a drawn tree, the first i of them -/
structure SksP (nms : List Str) (sks : List Sk) : Prop where
  nm : sks.map (·.name) = nms.take sks.length
  le : sks.length ≤ nms.length
  most : ∀ s ∈ sks, 1 ≤ s.most ∧ s.most ≤ 3
  cost : ∀ s ∈ sks, 1 ≤ s.cost ∧ s.cost ≤ 9
  want : ∀ (i : Nat) (s : Sk), sks[i]? = some s → (s.wants.map (·.1)).Nodup ∧ ∀ w ∈ s.wants, ∃ n < i, nms[n]? = some w.1 ∧ ∃ s', sks[n]? = some s' ∧ 1 ≤ w.2 ∧ w.2 ≤ s'.most
theorem WantsP.rev {nms : List Str} {sks : List Sk} {i : Nat} {ws : List (Str × Int)} (p : WantsP nms sks i ws) : WantsP nms sks i ws.reverse :=
  ⟨by rw [List.map_reverse]; exact (List.reverse_perm _).nodup_iff.mpr p.nd, fun w hw => p.ok w (List.mem_reverse.mp hw)⟩
theorem sks_snoc {nms : List Str} {sks : List Sk} (p : SksP nms sks) {x : Str} (hx : nms[sks.length]? = some x) {mo co : Int} (hm : 1 ≤ mo ∧ mo ≤ 3) (hc : 1 ≤ co ∧ co ≤ 9) {ws : List (Str × Int)} (hw : WantsP nms sks sks.length ws) : SksP nms (sks ++ [⟨x, mo, co, ws⟩]) := by
  have hlt : sks.length < nms.length := (List.getElem?_eq_some_iff.mp hx).1
  refine ⟨?_, ?_, ?_, ?_, ?_⟩
  · rw [List.map_append, p.nm, List.length_append, List.length_singleton, List.take_add_one, hx]
    rfl
  · simp only [List.length_append, List.length_singleton]; omega
  · intro s hs
    rcases List.mem_append.mp hs with m | m
    · exact p.most s m
    · simp only [List.mem_singleton] at m; subst m; exact hm
  · intro s hs
    rcases List.mem_append.mp hs with m | m
    · exact p.cost s m
    · simp only [List.mem_singleton] at m; subst m; exact hc
  · intro i s hs
    by_cases c : i < sks.length
    · rw [List.getElem?_append_left c] at hs
      obtain ⟨h1, h2⟩ := p.want i s hs
      refine ⟨h1, fun w hw => ?_⟩
      obtain ⟨n, hn, e, s', es, r⟩ := h2 w hw
      exact ⟨n, hn, e, s', by rw [List.getElem?_append_left (by omega)]; exact es, r⟩
    · have hi : i = sks.length := by
        have := (List.getElem?_eq_some_iff.mp hs).1
        simp only [List.length_append, List.length_singleton] at this
        omega
      subst hi
      simp at hs
      subst hs
      refine ⟨hw.nd, fun w hw' => ?_⟩
      obtain ⟨n, hn, e, s', es, r⟩ := hw.ok w hw'
      exact ⟨n, hn, e, s', by rw [List.getElem?_append_left (by omega)]; exact es, r⟩
theorem tree_s {m most : Int} {nms : List Str} (hnd : nms.Nodup) (h6 : nms.length ≤ 6) :
    ∃ sks, forLoop [5, 6, 7, 8, 9, 11] (gTups [5, 6]) b__law_tree_1 (nms.zipIdx.map fun p => .tup [.int (p.2 : Nat), .str p.1]) [.val (.int m), .val (.int most), .val (.lst (nms.map DL.D.str)), .own (.lst []), .no, .no, .no, .no, .no, .no, .no, .no] =
      .nx [.val (.int m), .val (.int most), .val (.lst (nms.map DL.D.str)), .own (.lst (sks.map encSk)), .no, .no, .no, .no, .no, .no, .no, .no] ∧ SksP nms sks ∧ sks.length = nms.length := by
  have W := for_inv (dead := [5, 6, 7, 8, 9, 11]) (g := gTups [5, 6]) (b := b__law_tree_1) (enc := fun p : Str × Nat => DL.D.tup [.int (p.2 : Nat), .str p.1]) (S := fun sks : List Sk => [.val (.int m), .val (.int most), .val (.lst (nms.map DL.D.str)), .own (.lst (sks.map encSk)), .no, .no, .no, .no, .no, .no, .no, .no]) (fun i sks => SksP nms sks ∧ sks.length = i) nms.zipIdx 0 [] ⟨⟨rfl, Nat.zero_le _, nofun, nofun, nofun⟩, rfl⟩ ?_
  · simpa using W
  · intro i x sks hx ⟨p, hlen⟩
    rw [Nat.zero_add] at hlen ⊢
    rw [List.getElem?_zipIdx] at hx
    obtain ⟨n, en, e⟩ := Option.map_eq_some_iff.mp hx
    rw [Nat.zero_add] at e
    subst e
    subst hlen
    have hlt : sks.length < nms.length := (List.getElem?_eq_some_iff.mp en).1
    obtain ⟨ws, W, hw, hwl⟩ := tree_w (m := m) (most := most) hnd (fun s hs => (p.most s hs).1) (Nat.le_refl _) (by omega) p.le (nm := .str n) (here := drawnI m (sks.length : Nat))
    generalize hH : drawnI m (sks.length : Nat) = H at W
    have v1 := @emod_lt (H / 16) 3 (by decide)
    have v2 := @emod_lt (H / 64) 9 (by decide)
    have rg : rangeOf [.int (sks.length : Nat)] = some ((List.range sks.length).map fun i => .int (i : Nat)) := by
      rw [w_range (by omega)]; rfl
    have dr : f__law_drawn [.d (.int m), .d (.int (sks.length : Nat))] = .ret (.int H) false := by rw [e_drawn, hH]
    have k0 : opRev (.lst (ws.map encW)) = some (.new (.lst (ws.reverse.map encW))) := by unfold opRev; simp
    have k3 : ∀ ws' : List (Str × Int), mmAppend (.lst (sks.map encSk)) [encSk ⟨n, 1 + H / 16 % 3, 1 + H / 64 % 9, ws'⟩] = some (.lst ((sks ++ [(⟨n, 1 + H / 16 % 3, 1 + H / 64 % 9, ws'⟩ : Sk)]).map encSk)) := fun ws' => by
      rw [mm_app (by simp only [List.length_map, sizeL]; omega)]
      simp
    by_cases c : H / 8 % 2 = 0
    · refine ⟨sks ++ [⟨n, 1 + H / 16 % 3, 1 + H / 64 % 9, ws.reverse⟩], ?_, sks_snoc p en (by omega) (by omega) hw.rev, by simp⟩
      have k5 : opEq (.int (H / 8 % 2)) (.int 0) = some (.dat (.bl true)) := by rw [op_eqI, decide_eq_true c]
      apply turn_nx
      focus (exists ())
      focus
        (exists dr)
        apply s_seq
        focus
          apply s_for
          focus (exists rg)
          focus (exists ())
          exact W
        apply s_seq
        focus
          apply s_ifT
          focus (exists k5)
          focus (exists k0)
        (exists k3 _)
      focus (exists ())
    · refine ⟨sks ++ [⟨n, 1 + H / 16 % 3, 1 + H / 64 % 9, ws⟩], ?_, sks_snoc p en (by omega) (by omega) hw, by simp⟩
      have k5 : opEq (.int (H / 8 % 2)) (.int 0) = some (.dat (.bl false)) := by rw [op_eqI, decide_eq_false c]
      apply turn_nx
      focus (exists ())
      focus
        (exists dr)
        apply s_seq
        focus
          apply s_for
          focus (exists rg)
          focus (exists ())
          exact W
        apply s_seq
        focus
          apply s_ifF
          focus (exists k5)
          focus (exists ())
        (exists k3 _)
      focus (exists ())
end SK
end
section
set_option linter.all false
set_option maxRecDepth 100000
set_option autoImplicit false
namespace SK
open PySem DL SM
structure LocksP (nms : List Str) (i : Nat) (ls : List (Str × Str)) : Prop where
  ok : ∀ l ∈ ls, l.1 ∈ nms ∧ l.2 ∈ nms ∧ strLt l.1 l.2 = true
  nd : ls.Nodup
  len : ls.length ≤ i
theorem srt_mem {nms : List Str} {a b : Str} (ha : a ∈ nms) (hb : b ∈ nms) : (srt a b).1 ∈ nms ∧ (srt a b).2 ∈ nms := by
  unfold srt; split <;> exact ⟨by assumption, by assumption⟩
theorem srt_lt {a b : Str} (ha : a ∈ names6) (hb : b ∈ names6) (h : (srt a b).1 ≠ (srt a b).2) : strLt (srt a b).1 (srt a b).2 = true := by
  unfold srt strLe at *
  cases c : strLt b a with
  | true => simp [c]
  | false =>
    simp only [c, Bool.not_false, if_true] at h ⊢
    rcases strLt6 a ha b hb h with r | r
    · exact r
    · rw [c] at r; cases r
theorem tree_l {m most : Int} {k : Nat} (hk : 1 ≤ k) (j : Nat) (hj : j ≤ 2) {s3 : Slot} :
    ∃ ls, forLoop [5, 7, 10] (gSet 5) b__law_tree_3 ((List.range j).map fun i => .int (i : Nat)) [.val (.int m), .val (.int most), .val (.lst ((names6.take k).map DL.D.str)), s3, .own (.lst []), .no, .no, .no, .no, .no, .no, .no] =
      .nx [.val (.int m), .val (.int most), .val (.lst ((names6.take k).map DL.D.str)), s3, .own (.lst (ls.map encL)), .no, .no, .no, .no, .no, .no, .no] ∧ LocksP (names6.take k) j ls := by
  have W := for_inv (dead := [5, 7, 10]) (g := gSet 5) (b := b__law_tree_3) (enc := fun i : Nat => DL.D.int (i : Nat)) (S := fun ls : List (Str × Str) => [.val (.int m), .val (.int most), .val (.lst ((names6.take k).map DL.D.str)), s3, .own (.lst (ls.map encL)), .no, .no, .no, .no, .no, .no, .no]) (fun i ls => LocksP (names6.take k) i ls) (List.range j) 0 [] ⟨nofun, List.nodup_nil, Nat.le_refl _⟩ ?_
  · simpa using W
  · intro i x ls hx p
    have hi : i < j := by simpa using (List.getElem?_eq_some_iff.mp hx).1
    rw [List.getElem?_range hi] at hx
    cases hx
    rw [Nat.zero_add] at p ⊢
    generalize hH : drawnI m (50 + (i : Nat)) = H
    generalize hn : names6.take k = nms at *
    have l0 : 0 < nms.length := by rw [← hn]; simp; omega
    have h6 : ∀ a ∈ nms, a ∈ names6 := fun a ha => List.mem_of_mem_take (hn ▸ ha)
    have v1 := @emod_lt (H / 8) (nms.length : Nat) (by omega)
    have v2 := @emod_lt (H / 64) (nms.length : Nat) (by omega)
    obtain ⟨a, ea⟩ : ∃ a, nms[(H / 8 % (nms.length : Nat)).toNat]? = some a := ⟨_, List.getElem?_eq_getElem (by omega)⟩
    obtain ⟨b, eb⟩ : ∃ b, nms[(H / 64 % (nms.length : Nat)).toNat]? = some b := ⟨_, List.getElem?_eq_getElem (by omega)⟩
    have ma := List.mem_of_getElem? ea
    have mb := List.mem_of_getElem? eb
    have dr : f__law_drawn [.d (.int m), .d (.int (50 + (i : Nat)))] = .ret (.int H) false := by rw [e_drawn, hH]
    have k1 : opIx (.lst (nms.map DL.D.str)) (.int (H / 8 % ((nms.map DL.D.str).length : Nat))) = some (.dat (.str a)) := by
      rw [List.length_map]; exact op_ixl (atD_int v1.1 (by rw [List.getElem?_map, ea]; rfl))
    have k2 : opIx (.lst (nms.map DL.D.str)) (.int (H / 64 % ((nms.map DL.D.str).length : Nat))) = some (.dat (.str b)) := by
      rw [List.length_map]; exact op_ixl (atD_int v2.1 (by rw [List.getElem?_map, eb]; rfl))
    have l1 : (0 : Int) < ((nms.map DL.D.str).length : Nat) := by rw [List.length_map]; omega
    have ms := srt_mem ma mb
    have ok : ∀ x ∈ nms, okStr x = true := fun x hx => okStr_of (ok6 x (h6 x hx))
    have k3 : opNe (.str (srt a b).1) (.str (srt a b).2) = some (.dat (.bl (!decide ((srt a b).1 = (srt a b).2)))) := op_neS (ok _ ms.1) (ok _ ms.2)
    have k4 : opNotIn (encL (srt a b)) (.lst (ls.map encL)) = some (.dat (.bl (!decide (srt a b ∈ ls)))) := (op_notIn eqT_l ⟨ok _ ms.1, ok _ ms.2⟩ (fun l hl => ⟨ok _ (p.ok l hl).1, ok _ (p.ok l hl).2.1⟩) (by decide)).trans (by congr)
    have k5 : mmAppend (.lst (ls.map encL)) [encL (srt a b)] = some (.lst ((ls ++ [srt a b]).map encL)) := by
      have := p.len
      rw [mm_app (by simp only [List.length_map, sizeL]; omega)]
      simp
    have so := @sort2 a b
    by_cases c : (srt a b).1 ≠ (srt a b).2 ∧ srt a b ∉ ls
    · refine ⟨ls ++ [srt a b], ?_, ⟨?_, ?_, ?_⟩⟩
      · have k3' : opNe (.str (srt a b).1) (.str (srt a b).2) = some (.dat (.bl true)) := by rw [k3, decide_eq_false c.1]; rfl
        have k4' : opNotIn (encL (srt a b)) (.lst (ls.map encL)) = some (.dat (.bl true)) := by rw [k4, decide_eq_false c.2]; rfl
        apply turn_nx
        focus (exists ())
        focus
          (exists dr, k1, k2, so, op_mod l1)
          apply s_ifT (sl1 := [.val (.int m), .val (.int most), .val (.lst (nms.map DL.D.str)), s3, .own (.lst (ls.map encL)), .val (.int (i : Nat)), .no, .val (.int H), .no, .no, .val (encL (srt a b)), .no])
          focus
            have := rt_and (p := true) (q := true) (t := (mtVal (mBin opNe (mBin opIx (mVar 10) (mC (.int 0))) (mBin opIx (mVar 10) (mC (.int 1)))))) (v := (mtVal (mBin opNotIn (mVar 10) (mVar 4)))) (sl := [.val (.int m), .val (.int most), .val (.lst (nms.map DL.D.str)), s3, .own (.lst (ls.map encL)), .val (.int (i : Nat)), .no, .val (.int H), .no, .no, .val (encL (srt a b)), .no]) (by (exists k3')) (fun _ => by (exists k4'))
            exact this
          focus (exists k5)
        focus (exists ())
      · intro l hl
        rcases List.mem_append.mp hl with q | q
        · exact p.ok l q
        · simp only [List.mem_singleton] at q; subst q
          exact ⟨ms.1, ms.2, srt_lt (h6 a ma) (h6 b mb) c.1⟩
      · rw [List.nodup_append]
        refine ⟨p.nd, by simp, ?_⟩
        intro x hx y hy
        simp only [List.mem_singleton] at hy
        subst hy
        exact fun e => c.2 (e ▸ hx)
      · have := p.len
        simp only [List.length_append, List.length_singleton]; omega
    · refine ⟨ls, ?_, ⟨p.ok, p.nd, by have := p.len; omega⟩⟩
      apply turn_nx
      focus (exists ())
      focus
        (exists dr, k1, k2, so, op_mod l1)
        apply s_ifF (sl1 := [.val (.int m), .val (.int most), .val (.lst (nms.map DL.D.str)), s3, .own (.lst (ls.map encL)), .val (.int (i : Nat)), .no, .val (.int H), .no, .no, .val (encL (srt a b)), .no])
        focus
          have := rt_and (t := (mtVal (mBin opNe (mBin opIx (mVar 10) (mC (.int 0))) (mBin opIx (mVar 10) (mC (.int 1)))))) (v := (mtVal (mBin opNotIn (mVar 10) (mVar 4)))) (sl := [.val (.int m), .val (.int most), .val (.lst (nms.map DL.D.str)), s3, .own (.lst (ls.map encL)), .val (.int (i : Nat)), .no, .val (.int H), .no, .no, .val (encL (srt a b)), .no]) (by (exists k3)) (fun _ => by (exists k4))
          have e : ((!decide ((srt a b).1 = (srt a b).2)) && !decide (srt a b ∈ ls)) = false := by
            rw [Bool.eq_false_iff]
            simpa using c
          rw [e] at this
          exact this
        focus (exists ())
      focus (exists ())
end SK
end
section
set_option linter.all false
set_option maxRecDepth 100000
set_option autoImplicit false
namespace SK
open PySem DL SM
theorem idx6 : ∀ (i : Nat) (x : Str), names6[i]? = some x → names6.idxOf x = i := by
  intro i x h
  have hi : i < 6 := (List.getElem?_eq_some_iff.mp h).1
  have : ∀ i < 6, ∀ x ∈ names6, names6[i]? = some x → names6.idxOf x = i := by decide +kernel
  exact this i hi x (List.mem_of_getElem? h) h
theorem tree_wf {k : Nat} (hk : 1 ≤ k) {sks sks' : List Sk} (p : SksP (names6.take k) sks) (hl : sks.length = (names6.take k).length) (hr : sks' = sks ∨ sks' = sks.reverse) {i : Nat} (hi : i ≤ 2) {ls : List (Str × Str)} (q : LocksP (names6.take k) i ls) :
    WF ⟨sks', ls⟩ ∧ (∀ n ∈ (⟨sks', ls⟩ : Tr).names, n ∈ names6) := by
  have lk : (names6.take k).length ≤ 6 ∧ 1 ≤ (names6.take k).length := by
    rw [List.length_take]; have : names6.length = 6 := rfl; omega
  have en : sks.map (·.name) = names6.take k := by rw [p.nm, hl, List.take_length]
  have m1 : ∀ s, s ∈ sks' ↔ s ∈ sks := fun s => by
    rcases hr with r | r <;> subst r
    · exact Iff.rfl
    · exact List.mem_reverse
  have l1 : sks'.length = sks.length := by
    rcases hr with r | r <;> subst r
    · rfl
    · exact List.length_reverse
  have nm1 : ∀ n, n ∈ sks'.map (·.name) ↔ n ∈ names6.take k := fun n => by
    rw [← en]
    simp only [List.mem_map, m1]
  have nd1 : (names6.take k).Nodup := List.Sublist.nodup (List.take_sublist _ _) nd6
  have nd : (sks'.map (·.name)).Nodup := by
    rcases hr with r | r <;> subst r
    · rw [en]; exact nd1
    · rw [List.map_reverse]
      exact (List.reverse_perm _).nodup_iff.mpr (en ▸ nd1)
  have six : ∀ n ∈ names6.take k, n ∈ names6 := fun n hn => List.mem_of_mem_take hn
  have nmAt : ∀ (i : Nat) (s : Sk), sks[i]? = some s → names6[i]? = some s.name := fun i s h => by
    have h2 : (sks.map (·.name))[i]? = some s.name := by rw [List.getElem?_map, h]; rfl
    rw [en, List.getElem?_take] at h2
    split at h2
    · exact h2
    · cases h2
  refine ⟨⟨by show 1 ≤ sks'.length; omega, by show sks'.length ≤ 6; omega, nd, fun n hn => ok6 n (six n ((nm1 n).mp hn)), fun s hs => p.most s ((m1 s).mp hs), fun s hs => p.cost s ((m1 s).mp hs), ?_, ?_, ?_, ?_, q.nd, ?_⟩, fun n hn => six n ((nm1 n).mp hn)⟩
  · intro s hs
    obtain ⟨j, hj⟩ := List.mem_iff_getElem?.mp ((m1 s).mp hs)
    exact (p.want j s hj).1
  · intro s hs w hw
    obtain ⟨j, hj⟩ := List.mem_iff_getElem?.mp ((m1 s).mp hs)
    obtain ⟨n, hn, e, s', es, h1, h2⟩ := (p.want j s hj).2 w hw
    refine ⟨h1, s', (m1 s').mpr (List.mem_of_getElem? es), ?_, h2⟩
    have := nmAt n s' es
    rw [List.getElem?_take] at e
    split at e
    · exact Option.some.inj (this.symm.trans e)
    · cases e
  · refine ⟨fun x => names6.idxOf x, fun s hs => ?_⟩
    obtain ⟨j, hj⟩ := List.mem_iff_getElem?.mp ((m1 s).mp hs)
    have ej := nmAt j s hj
    have ij := idx6 j _ ej
    have hj6 : j < 6 := (List.getElem?_eq_some_iff.mp ej).1
    refine ⟨by show names6.idxOf s.name < 6; omega, fun w hw => ?_⟩
    obtain ⟨n, hn, e, _⟩ := (p.want j s hj).2 w hw
    have e6 : names6[n]? = some w.1 := by
      rw [List.getElem?_take] at e
      split at e
      · exact e
      · cases e
    have := idx6 n _ e6
    show names6.idxOf w.1 < names6.idxOf s.name
    omega
  · intro l hl
    have h := q.ok l hl
    exact ⟨(nm1 _).mpr h.1, (nm1 _).mpr h.2.1, h.2.2⟩
  · have := q.len
    show ls.length ≤ 3
    omega
theorem e_law_tree (m most : Int) (h1 : 1 ≤ most) (h6 : most ≤ 6) : ∃ t, f__law_tree [.d (.int m), .d (.int most)] = .ret (encT t) false ∧ WF t ∧ (∀ n ∈ t.names, n ∈ names6) ∧ (t.sks.length : Int) ≤ most := by
  have v := @emod_lt m most (by omega)
  generalize hk : (1 + m % most).toNat = k
  have hk1 : 1 ≤ k ∧ (k : Int) ≤ most := by omega
  have lt : (names6.take k).length = k := by rw [List.length_take]; have : names6.length = 6 := rfl; omega
  obtain ⟨sks, L1, p, hl⟩ := tree_s (m := m) (most := most) (nms := names6.take k) (List.Sublist.nodup (List.take_sublist _ _) nd6) (by omega)
  have c0 : opCut none (some (1 + m % most)) (.lst [.str "b", .str "axe", .str "c", .str "zap", .str "dd", .str "e"]) = some (.new (.lst ((names6.take k).map DL.D.str))) := by
    rw [cut_take (by omega), hk]
    congr 3
    rw [List.map_take]
    rfl
  have en : enumOf [.lst ((names6.take k).map DL.D.str)] = some ((names6.take k).zipIdx.map fun p => .tup [.int (p.2 : Nat), .str p.1]) := w_enum
  have k0 : opRev (.lst (sks.map encSk)) = some (.new (.lst (sks.reverse.map encSk))) := by unfold opRev; simp
  have v64 := @emod_lt (m / 64) 3 (by decide)
  generalize hsr : (if m / 32 % 2 = 0 then sks.reverse else sks) = sks'
  generalize hj : (if (2 : Int) < ((names6.take k).map DL.D.str).length then m / 64 % 3 else 0) = j
  have j2 : 0 ≤ j ∧ j ≤ 2 := by rw [← hj]; split <;> omega
  obtain ⟨ls, L2, q⟩ := tree_l (m := m) (most := most) hk1.1 j.toNat (by omega) (s3 := .own (.lst (sks'.map encSk)))
  have rg : rangeOf [.int j] = some ((List.range j.toNat).map fun i => .int (i : Nat)) := w_range (by omega)
  have rg' : rangeOf [if decide ((2 : Int) < (((names6.take k).map DL.D.str).length : Nat)) = true then DL.D.int (m / 64 % 3) else DL.D.int 0] = some ((List.range j.toNat).map fun i => .int (i : Nat)) := by
    have e : (if decide ((2 : Int) < (((names6.take k).map DL.D.str).length : Nat)) = true then DL.D.int (m / 64 % 3) else DL.D.int 0) = DL.D.int j := by
      rw [← hj]
      simp only [decide_eq_true_eq]
      split <;> rfl
    rw [e]; exact rg
  have B := tree_wf hk1.1 p hl (sks' := sks') (by rw [← hsr]; split; exact .inr rfl; exact .inl rfl) (by omega) q
  refine ⟨⟨sks', ls⟩, ?_, B.1, B.2, ?_⟩
  · (unfold f__law_tree; apply DL.fn_ev; (focus (simp only [DL.wipeSl, DL.backSl, DL.gSet, DL.gTups, DL.gSets, DL.storeRv, List.set_cons_zero, List.set_cons_succ, List.getElem?_cons_zero, List.getElem?_cons_succ, DL.Slot.mine, DL.Slot.ofArg, Bool.false_eq_true, if_true, if_false, List.map_cons, List.map_nil, List.length_cons, List.length_nil, List.replicate, List.cons_append, List.nil_append, Nat.reduceSub, Nat.reduceAdd, DL.parSlot] <;> rfl)); (focus (unfold s__law_tree; exists c0, op_mod (show 0 < most by omega))))
    · apply s_seq
      focus
        apply s_for
        focus (exists en)
        focus (exists ())
        exact L1
      apply s_seq (sl1 := [.val (.int m), .val (.int most), .val (.lst ((names6.take k).map DL.D.str)), .own (.lst (sks'.map encSk)), .no, .no, .no, .no, .no, .no, .no, .no])
      focus
        by_cases c : m / 32 % 2 = 0
        · have k5 : opEq (.int (m / 32 % 2)) (.int 0) = some (.dat (.bl true)) := by rw [op_eqI, decide_eq_true c]
          rw [if_pos c] at hsr
          subst hsr
          apply s_ifT
          focus (exists k5)
          focus (exists k0)
        · have k5 : opEq (.int (m / 32 % 2)) (.int 0) = some (.dat (.bl false)) := by rw [op_eqI, decide_eq_false c]
          rw [if_neg c] at hsr
          subst hsr
          apply s_ifF
          focus (exists k5)
          focus (exists ())
      (exists ())
      apply s_seq
      focus
        apply s_for (ds := (List.range j.toNat).map fun i => .int (i : Nat)) (sl1 := [.val (.int m), .val (.int most), .val (.lst ((names6.take k).map DL.D.str)), .own (.lst (sks'.map encSk)), .own (.lst []), .no, .no, .no, .no, .no, .no, .no])
        focus (exists rg')
        focus (exists ())
        exact L2
      (exists ())
    · rfl
  · show (sks'.length : Int) ≤ most
    have : sks'.length = sks.length := by rw [← hsr]; split; exact List.length_reverse; rfl
    omega
end SK
end
section
set_option linter.all false
set_option maxRecDepth 100000
set_option autoImplicit false
/-! plain evaluation: lambdas, told -/
namespace DL
open PySem
theorem lr_dat {m : ME} {sl v s' : Sl} {d : D} (hv : viewSl sl = v) (h : Ee m v (.dat d) s') : lamRes m sl = .ret d false := by
  unfold lamRes; rw [hv, h.out]
theorem lr_new {m : ME} {sl v s' : Sl} {d : D} (hv : viewSl sl = v) (h : Ee m v (.new d) s') : lamRes m sl = .ret d true := by
  unfold lamRes; rw [hv, h.out]
theorem lr_exc {m : ME} {sl v s' : Sl} {c : Str} (hv : viewSl sl = v) (h : m v = .exc c s') : lamRes m sl = .exc c := by
  unfold lamRes; rw [hv, h]
theorem r_callLam {g : Fn} {m : ME} {sl : Sl} {r o : Res} {z : Rv} (h : lamRes m sl = r) (hg : g [.t r] = o) (ho : resRv o = some z) : Ee (mCallLam g m) sl z sl := by
  constructor
  unfold mCallLam
  rw [h, hg]
  cases o with
  | ret d fr => cases fr <;> (cases ho; rfl)
  | exc c => cases ho
  | bad => cases ho
theorem r_callLams {g : Fn} {ms l : List ME} {i : Nat} {sl sl1 : Sl} {ids : List Nat} {rs : List Res} {o : Res} {z : Rv} (h0 : sl[i]? = some (.lams ids)) (h1 : (ids.mapM fun id => ms[id]?) = some l) (h2 : sl.set i .no = sl1) (h3 : (l.map fun m => lamRes m sl1) = rs) (hg : g [.ts rs] = o) (ho : resRv o = some z) : Ee (mCallLams g ms i) sl z sl1 := by
  constructor
  unfold mCallLams
  simp only [h0, h1, h2, h3, hg]
  cases o with
  | ret d fr => cases fr <;> (cases ho; rfl)
  | exc c => cases ho
  | bad => cases ho
theorem s_lams {i id : Nat} {sl sl1 : Sl} (h : sl.set i (.lams [id]) = sl1) : Es (msLams i id) sl (.nx sl1) := by
  constructor; unfold msLams; rw [h]
theorem s_lamApp {i id : Nat} {sl sl1 : Sl} {ids : List Nat} (h0 : sl[i]? = some (.lams ids)) (hz : ids.length < sizeL) (h : sl.set i (.lams (ids ++ [id])) = sl1) : Es (msLamApp i id) sl (.nx sl1) := by
  constructor; unfold msLamApp; simp only [h0, hz, if_true, h]
theorem eqv_refl : ∀ d : D, d.laid = true → D.eqv d d = true
  | .non, _ => rfl
  | .bl b, _ => by cases b <;> rfl
  | .int i, _ => by simp [D.eqv]
  | .str x, _ => by simp [D.eqv]
  | .lst ds, h => eqvs_refl ds h
  | .tup ds, h => eqvs_refl ds h
where
  eqvs_refl : ∀ ds : List D, D.laids ds = true → D.eqvs ds ds = true
    | [], _ => rfl
    | d :: r, h => by
      simp only [D.laids, Bool.and_eq_true] at h
      simp only [D.eqvs, eqv_refl d h.1, eqvs_refl r h.2, Bool.and_self]
theorem ne_self {d : D} (h : d.laid = true) (hd : d.dep ≤ 64) : opNe d d = some (.dat (.bl false)) := by
  have hn : d.norm = d := by cases d <;> first | rfl | cases h
  unfold opNe opEq0
  rw [hn, if_pos ⟨h, h, by omega⟩, eqv_refl d h]
  rfl
theorem eq_self {d : D} (h : d.laid = true) (hd : d.dep ≤ 64) : opEq d d = some (.dat (.bl true)) := by
  have hn : d.norm = d := by cases d <;> first | rfl | cases h
  unfold opEq opEq0
  rw [hn, if_pos ⟨h, h, by omega⟩, eqv_refl d h]
  rfl
end DL
namespace SM
open PySem DL
theorem told_ret {d : DL.D} {fr : Bool} : f__law_told [.t (.ret d fr)] = .ret d fr := rfl
theorem told_exc {c : Str} (h : c ∈ xs9) : f__law_told [.t (.exc c)] = .ret (.str c) false := by
  show outRes (msTold xs9 0 1 [.thk (.exc c), .no]) = _
  unfold msTold
  simp [h, outRes]
theorem all_exc {cs : List Str} (h : ∀ c ∈ cs, c ∈ xs9) : f__law_all [.ts (cs.map .exc)] = .ret (.lst (cs.map .str)) true := by
  have e : resOf f__law_told (cs.map .exc) = some (cs.map .str) := by
    induction cs with
    | nil => rfl
    | cons c r ih =>
      simp only [List.map_cons, resOf, told_exc (h c (List.mem_cons_self ..)), ih fun x m => h x (.tail _ m), Option.map_some]
  show outRes (msRet (mLcThk 1 0 f__law_told) [.thks (cs.map .exc), .no]) = _
  unfold mLcThk msRet
  simp [e, EOut.sbind, outRes]
end SM
end
section
set_option linter.all false
set_option maxRecDepth 100000
set_option autoImplicit false
set_option maxHeartbeats 2000000
/-! levels, builds -/
namespace SK
open PySem DL SM
/-- levels by names -/
abbrev Lv := Str → Int
abbrev rowD (t : Tr) (L : Lv) : DL.D := .tup (t.sks.map fun s => .int (L s.name))
abbrev lvD (t : Tr) (L : Lv) : DL.D := dOf (t.sks.map (·.name)) fun n => .int (L n)
theorem keys_strs : ∀ ns : List Str, keys? (ns.map DL.D.str) = some (ns.map fun n => (.inr n : Ky))
  | [] => rfl
  | n :: r => by
    simp only [List.map_cons, keys?, DL.D.key?, Option.bind_some, keys_strs r, Option.map_some]
theorem op_dictZ {ns : List Str} {f : Str → DL.D} (h : ns.Nodup) : opDictZ [.lst (ns.map DL.D.str), .tup (ns.map f)] = some (.new (dOf ns f)) := by
  have z : ∀ l : List Str, (l.map fun n => (.inr n : Ky)).zip (l.map f) = (l.map fun n => (n, f n)).map fun p => ((.inr p.1 : Ky), p.2) := fun l => by
    induction l with
    | nil => rfl
    | cons a r ih => simp only [List.map_cons, List.zip_cons_cons, ih]
  have m := dMerge_app (ps := ns.map fun n => (n, f n)) [] f (by simpa [List.map_map, Function.comp_def] using h) (fun p hp => by
    obtain ⟨n, _, rfl⟩ := List.mem_map.mp hp; rfl)
  show ((seqOf? (.lst (ns.map DL.D.str))).bind fun ks => (seqOf? (.tup (ns.map f))).bind fun vs => (keys? ks).map fun q => Rv.new (.dct (dMerge [] (q.zip vs)))) = _
  simp only [seqOf?, Option.bind_some, keys_strs, Option.map_some, z]
  rw [show ([] : List (Ky × DL.D)) = ([] : List Str).map (fun n => ((.inr n : Ky), f n)) from rfl, m]
  simp [dOf, List.map_map, Function.comp_def]
/-! zips over one list -/
theorem w_zipSS {α : Type} {f g : α → DL.D} {l : List α} : zipAny [.tup (l.map f), .tup (l.map g)] = some (l.map fun x => .tup [f x, g x]) := by
  simp only [zipAny, seqOf?, Option.bind_some, Option.map_some]
  congr 1
  induction l with
  | nil => rfl
  | cons a r ih => simp only [List.map_cons, List.zip_cons_cons, ih]
theorem w_zipLS {α : Type} {f g : α → DL.D} {l : List α} : zipAny [.lst (l.map f), .tup (l.map g)] = some (l.map fun x => .tup [f x, g x]) := w_zipSS
theorem w_zipSL {α : Type} {f g : α → DL.D} {l : List α} : zipAny [.tup (l.map f), .lst (l.map g)] = some (l.map fun x => .tup [f x, g x]) := w_zipSS
theorem w_zipLL {α : Type} {f g : α → DL.D} {l : List α} : zipAny [.lst (l.map f), .lst (l.map g)] = some (l.map fun x => .tup [f x, g x]) := w_zipSS
theorem e_levels_of {t : Tr} (h : WF t) (L : Lv) : f_levels_of [.d (encT t), .d (rowD t L)] = .ret (lvD t L) true := by
  have k : opDictZ [.lst (t.sks.map fun s => .str s.name), rowD t L] = some (.new (lvD t L)) := by
    have := op_dictZ (f := fun n => .int (L n)) h.nd
    rw [List.map_map, List.map_map] at this
    exact this
  (unfold f_levels_of; apply DL.fn_ev; (focus (simp only [DL.wipeSl, DL.backSl, DL.gSet, DL.gTups, DL.gSets, DL.storeRv, List.set_cons_zero, List.set_cons_succ, List.getElem?_cons_zero, List.getElem?_cons_succ, DL.Slot.mine, DL.Slot.ofArg, Bool.false_eq_true, if_true, if_false, List.map_cons, List.map_nil, List.length_cons, List.length_nil, List.replicate, List.cons_append, List.nil_append, Nat.reduceSub, Nat.reduceAdd, DL.parSlot] <;> rfl)); (focus (unfold s_levels_of; exists e_names_of h, k)))
  rfl
/-- what is wanted and lacks -/
abbrev lackL (L : Lv) (s : Sk) : List (Str × Int) := s.wants.filter fun w => decide (L w.1 < w.2)
theorem e_lacking {t : Tr} (h : WF t) (L : Lv) {s : Sk} (hs : s ∈ t.sks) : f_lacking [.d (encT t), .d (lvD t L), .d (.str s.name)] = .ret (.lst ((lackL L s).map encW)) true := by
  have k1 : ∀ s' ∈ t.sks, opEq (.str s'.name) (.str s.name) = some (.dat (.bl (decide (s'.name = s.name)))) := fun s' hs' => op_eqS (h.oks hs') (h.oks hs)
  have k2 : opIx (.lst ((t.sks.filter fun x => decide (x.name = s.name)).map encSk)) (.int 0) = some (.dat (encSk s)) := by
    rw [h.filt hs]; exact op_ixl0
  have k3 : ∀ w ∈ s.wants, opIx (lvD t L) (.str w.1) = some (.dat (.int (L w.1))) := fun w hw => op_ixD (h.wmem hs hw)
  (unfold f_lacking; apply DL.fn_ev; (focus (simp only [DL.wipeSl, DL.backSl, DL.gSet, DL.gTups, DL.gSets, DL.storeRv, List.set_cons_zero, List.set_cons_succ, List.getElem?_cons_zero, List.getElem?_cons_succ, DL.Slot.mine, DL.Slot.ofArg, Bool.false_eq_true, if_true, if_false, List.map_cons, List.map_nil, List.length_cons, List.length_nil, List.replicate, List.cons_append, List.nil_append, Nat.reduceSub, Nat.reduceAdd, DL.parSlot] <;> rfl)); (focus (unfold s_lacking; exists k1 _ ‹_›, k2, k3 _ ‹_›, h.size, h.wsize hs)))
  rfl
abbrev clashL (t : Tr) (L : Lv) : List (Str × Str) := t.locks.filter fun l => decide (0 < L l.1) && decide (0 < L l.2)
theorem WF.lsize {t : Tr} (h : WF t) : t.locks.length ≤ sizeL := Nat.le_trans h.llen (by decide)
theorem e_clashes {t : Tr} (h : WF t) (L : Lv) : f_clashes [.d (encT t), .d (lvD t L)] = .ret (.lst ((clashL t L).map encL)) true := by
  have k1 : ∀ l ∈ t.locks, opIx (lvD t L) (.str l.1) = some (.dat (.int (L l.1))) := fun l hl => op_ixD (h.lock l hl).1
  have k2 : ∀ l ∈ t.locks, opIx (lvD t L) (.str l.2) = some (.dat (.int (L l.2))) := fun l hl => op_ixD (h.lock l hl).2.1
  (unfold f_clashes; apply DL.fn_ev; (focus (simp only [DL.wipeSl, DL.backSl, DL.gSet, DL.gTups, DL.gSets, DL.storeRv, List.set_cons_zero, List.set_cons_succ, List.getElem?_cons_zero, List.getElem?_cons_succ, DL.Slot.mine, DL.Slot.ofArg, Bool.false_eq_true, if_true, if_false, List.map_cons, List.map_nil, List.length_cons, List.length_nil, List.replicate, List.cons_append, List.nil_append, Nat.reduceSub, Nat.reduceAdd, DL.parSlot] <;> rfl)); (focus (unfold s_clashes; exists k1 _ ‹_›, k2 _ ‹_›, h.lsize)))
  rfl
/-- each level within its skill -/
def areB (t : Tr) (L : Lv) : Bool := t.sks.all fun s => decide (0 ≤ L s.name) && decide (L s.name ≤ s.most)
theorem e_are_levels {t : Tr} (h : WF t) (L : Lv) : f_are_levels [.d (encT t), .d (rowD t L)] = .ret (.bl (areB t L)) false := by
  (unfold f_are_levels; apply DL.fn_ev; (focus (simp only [DL.wipeSl, DL.backSl, DL.gSet, DL.gTups, DL.gSets, DL.storeRv, List.set_cons_zero, List.set_cons_succ, List.getElem?_cons_zero, List.getElem?_cons_succ, DL.Slot.mine, DL.Slot.ofArg, Bool.false_eq_true, if_true, if_false, List.map_cons, List.map_nil, List.length_cons, List.length_nil, List.replicate, List.cons_append, List.nil_append, Nat.reduceSub, Nat.reduceAdd, DL.parSlot] <;> rfl)); (focus (unfold s_are_levels; exists w_zipSS, e_is_count _ _ _, h.size)))
  simp [areB, outRes]
def holdsB (t : Tr) (L : Lv) : Bool := decide (clashL t L = []) && t.sks.all fun s => decide (L s.name = 0) || decide (lackL L s = [])
theorem clash_ld {t : Tr} (h : WF t) (L : Lv) : DL.D.laids ((clashL t L).map encL) = true := laids_map fun l hl => eqT_l.laid l (by
  have := h.lock l (List.mem_filter.mp hl).1
  exact ⟨h.okn this.1, h.okn this.2.1⟩)
theorem lack_ld {t : Tr} (h : WF t) (L : Lv) {s : Sk} (hs : s ∈ t.sks) : DL.D.laids ((lackL L s).map encW) = true := laids_map fun w hw => eqT_w.laid w ⟨h.okw hs (List.mem_filter.mp hw).1, trivial⟩
theorem eq_nil {ds : List DL.D} (h : DL.D.laids ds = true) : opEq (.lst ds) (.lst []) = some (.dat (.bl (decide (ds = [])))) := by
  have := ne_nil h
  unfold opNe at this
  unfold opEq
  obtain ⟨b, e1, e2⟩ := Option.map_eq_some_iff.mp this
  rw [e1]
  simp only [Rv.dat.injEq, DL.D.bl.injEq] at e2
  cases b <;> simp_all
theorem map_nil {α : Type} {f : α → DL.D} {l : List α} : decide (l.map f = []) = decide (l = []) := decide_eq_decide.mpr List.map_eq_nil_iff
theorem e_holds {t : Tr} (h : WF t) (L : Lv) : f_holds [.d (encT t), .d (rowD t L)] = .ret (.bl (holdsB t L)) false := by
  have k1 : opNe (.lst ((clashL t L).map encL)) (.lst []) = some (.dat (.bl (!decide (clashL t L = [])))) := by rw [ne_nil (clash_ld h L), map_nil]
  have k2 : ∀ s ∈ t.sks, opEq (.lst ((lackL L s).map encW)) (.lst []) = some (.dat (.bl (decide (lackL L s = [])))) := fun s hs => by rw [eq_nil (lack_ld h L hs), map_nil]
  have k3 : ∀ s ∈ t.sks, opIx (lvD t L) (.str s.name) = some (.dat (.int (L s.name))) := fun s hs => op_ixD (h.mem hs)
  (unfold f_holds; apply DL.fn_ev; (focus (simp only [DL.wipeSl, DL.backSl, DL.gSet, DL.gTups, DL.gSets, DL.storeRv, List.set_cons_zero, List.set_cons_succ, List.getElem?_cons_zero, List.getElem?_cons_succ, DL.Slot.mine, DL.Slot.ofArg, Bool.false_eq_true, if_true, if_false, List.map_cons, List.map_nil, List.length_cons, List.length_nil, List.replicate, List.cons_append, List.nil_append, Nat.reduceSub, Nat.reduceAdd, DL.parSlot] <;> rfl)); (focus (unfold s_holds; exists e_levels_of h L, e_clashes h L, k1, e_names_of h, k3 _ ‹_›, e_lacking h L ‹_›, k2 _ ‹_›, h.size)))
  unfold holdsB
  cases decide (clashL t L = []) <;> rfl
theorem e_is_build {t : Tr} (h : WF t) (L : Lv) : f_is_build [.d (encT t), .d (rowD t L)] = .ret (.bl (areB t L && holdsB t L)) false := by
  (unfold f_is_build; apply DL.fn_ev; (focus (simp only [DL.wipeSl, DL.backSl, DL.gSet, DL.gTups, DL.gSets, DL.storeRv, List.set_cons_zero, List.set_cons_succ, List.getElem?_cons_zero, List.getElem?_cons_succ, DL.Slot.mine, DL.Slot.ofArg, Bool.false_eq_true, if_true, if_false, List.map_cons, List.map_nil, List.length_cons, List.length_nil, List.replicate, List.cons_append, List.nil_append, Nat.reduceSub, Nat.reduceAdd, DL.parSlot] <;> rfl)); (focus (unfold s_is_build; exists e_need_tree h, e_are_levels h L, e_holds h L)))
  rfl
theorem e_need_build {t : Tr} (h : WF t) (L : Lv) (hb : (areB t L && holdsB t L) = true) : f_need_build [.d (encT t), .d (rowD t L)] = .ret .non false := by
  (unfold f_need_build; apply DL.fn_ev; (focus (simp only [DL.wipeSl, DL.backSl, DL.gSet, DL.gTups, DL.gSets, DL.storeRv, List.set_cons_zero, List.set_cons_succ, List.getElem?_cons_zero, List.getElem?_cons_succ, DL.Slot.mine, DL.Slot.ofArg, Bool.false_eq_true, if_true, if_false, List.map_cons, List.map_nil, List.length_cons, List.length_nil, List.replicate, List.cons_append, List.nil_append, Nat.reduceSub, Nat.reduceAdd, DL.parSlot] <;> rfl)); (focus (unfold s_need_build; exists e_is_build h L)))
  rw [hb]; rfl
def costI (t : Tr) (L : Lv) : Int := (t.sks.map fun s => L s.name * s.cost).sum
theorem e_cost_of {t : Tr} (h : WF t) (L : Lv) : f_cost_of [.d (encT t), .d (rowD t L)] = .ret (.int (costI t L)) false := by
  have k : ∀ s ∈ t.sks, opMul (.int (L s.name)) (.int s.cost) = some (.dat (.int (L s.name * s.cost))) := fun s hs => op_mulr (by have := h.cost s hs; omega)
  (unfold f_cost_of; apply DL.fn_ev; (focus (simp only [DL.wipeSl, DL.backSl, DL.gSet, DL.gTups, DL.gSets, DL.storeRv, List.set_cons_zero, List.set_cons_succ, List.getElem?_cons_zero, List.getElem?_cons_succ, DL.Slot.mine, DL.Slot.ofArg, Bool.false_eq_true, if_true, if_false, List.map_cons, List.map_nil, List.length_cons, List.length_nil, List.replicate, List.cons_append, List.nil_append, Nat.reduceSub, Nat.reduceAdd, DL.parSlot] <;> rfl)); (focus (unfold s_cost_of; exists w_zipSS, k _ ‹_›, h.size)))
  rfl
theorem e_law_cost {t : Tr} (h : WF t) (L : Lv) : f__law_cost [.d (encT t), .d (rowD t L)] = .ret (.int (costI t L)) false := by
  have k : ∀ s ∈ t.sks, opMul (.int (L s.name)) (.int s.cost) = some (.dat (.int (L s.name * s.cost))) := fun s hs => op_mulr (by have := h.cost s hs; omega)
  (unfold f__law_cost; apply DL.fn_ev; (focus (simp only [DL.wipeSl, DL.backSl, DL.gSet, DL.gTups, DL.gSets, DL.storeRv, List.set_cons_zero, List.set_cons_succ, List.getElem?_cons_zero, List.getElem?_cons_succ, DL.Slot.mine, DL.Slot.ofArg, Bool.false_eq_true, if_true, if_false, List.map_cons, List.map_nil, List.length_cons, List.length_nil, List.replicate, List.cons_append, List.nil_append, Nat.reduceSub, Nat.reduceAdd, DL.parSlot] <;> rfl)); (focus (unfold s__law_cost; exists w_zipSS, k _ ‹_›, h.size)))
  rfl
end SK
end
section
set_option linter.all false
set_option maxRecDepth 100000
set_option autoImplicit false
set_option maxHeartbeats 2000000
/-! the least levels that have some, and all that they want -/
namespace SK
open PySem DL SM
def Closed (t : Tr) (M : Lv) : Prop := ∀ s ∈ t.sks, 0 < M s.name → ∀ w ∈ s.wants, w.2 ≤ M w.1
def Le (t : Tr) (L M : Lv) : Prop := ∀ n ∈ t.names, L n ≤ M n
structure Grown (t : Tr) (L L' : Lv) : Prop where
  le : Le t L L'
  cl : Closed t L'
  min : ∀ M, Closed t M → Le t L M → Le t L' M
theorem Le.trans {t : Tr} {L M N : Lv} (a : Le t L M) (b : Le t M N) : Le t L N := fun n hn => Int.le_trans (a n hn) (b n hn)
theorem Le.refl {t : Tr} {L : Lv} : Le t L L := fun _ _ => Int.le_refl _
abbrev gStep (s : Sk) (a : Lv × Bool) (w : Str × Int) : Lv × Bool := if 0 < a.1 s.name ∧ a.1 w.1 < w.2 then (upd a.1 w.1 w.2, true) else a
abbrev gSk (a : Lv × Bool) (s : Sk) : Lv × Bool := s.wants.foldl (gStep s) a
abbrev gPass (t : Tr) (a : Lv × Bool) : Lv × Bool := t.sks.foldl gSk a
def sumL (t : Tr) (L : Lv) : Int := (t.sks.map fun s => L s.name).sum
theorem sum_le {α : Type} {f g : α → Int} : ∀ l : List α, (∀ x ∈ l, f x ≤ g x) → (l.map f).sum ≤ (l.map g).sum
  | [], _ => Int.le_refl _
  | a :: r, h => by
    have h1 := h a (List.mem_cons_self ..)
    have h2 := sum_le r fun x m => h x (.tail _ m)
    simp only [List.map_cons, List.sum_cons]
    omega
theorem sum_lt {α : Type} {f g : α → Int} : ∀ l : List α, (∀ x ∈ l, f x ≤ g x) → (∃ x ∈ l, f x < g x) → (l.map f).sum < (l.map g).sum
  | [], _, ⟨_, m, _⟩ => nomatch m
  | a :: r, h, ⟨x, m, lt⟩ => by
    have h1 := h a (List.mem_cons_self ..)
    simp only [List.map_cons, List.sum_cons]
    rcases List.mem_cons.mp m with rfl | m
    · have h2 := sum_le r fun x m => h x (.tail _ m)
      omega
    · have h2 := sum_lt r (fun x m => h x (.tail _ m)) ⟨x, m, lt⟩
      omega
theorem sum_bound {α : Type} {f : α → Int} {c : Int} : ∀ l : List α, (∀ x ∈ l, f x ≤ c) → (l.map f).sum ≤ c * l.length
  | [], _ => by simp
  | a :: r, h => by
    have h1 := h a (List.mem_cons_self ..)
    have h2 := sum_bound r fun x m => h x (.tail _ m)
    simp only [List.map_cons, List.sum_cons, List.length_cons]
    have : c * ((r.length + 1 : Nat) : Int) = c * r.length + c := by rw [Int.natCast_add, Int.mul_add]; simp
    omega
/-- what one step keeps -/
structure GR (t : Tr) (a b : Lv × Bool) : Prop where
  le : Le t a.1 b.1
  min : ∀ M, Closed t M → Le t a.1 M → Le t b.1 M
  off : b.2 = false → a.2 = false ∧ b.1 = a.1
  on : b.2 = true → a.2 = true ∨ sumL t a.1 < sumL t b.1
theorem GR.refl {t : Tr} {a : Lv × Bool} : GR t a a := ⟨Le.refl, fun _ _ h => h, fun h => ⟨h, rfl⟩, fun h => .inl h⟩
theorem Le.sum {t : Tr} {L M : Lv} (h : Le t L M) : sumL t L ≤ sumL t M := sum_le _ fun s hs => h _ (List.mem_map_of_mem hs)
theorem GR.trans {t : Tr} {a b c : Lv × Bool} (p : GR t a b) (q : GR t b c) : GR t a c :=
  ⟨p.le.trans q.le, fun M hM h => q.min M hM (p.min M hM h), fun h => by
    obtain ⟨h1, h2⟩ := q.off h
    obtain ⟨h3, h4⟩ := p.off h1
    exact ⟨h3, h2.trans h4⟩, fun h => by
    have s1 := p.le.sum
    have s2 := q.le.sum
    rcases q.on h with h1 | h1
    · rcases p.on h1 with h2 | h2
      · exact .inl h2
      · exact .inr (by omega)
    · exact .inr (by omega)⟩
theorem gr_step {t : Tr} (h : WF t) {s : Sk} (hs : s ∈ t.sks) {w : Str × Int} (hw : w ∈ s.wants) (a : Lv × Bool) : GR t a (gStep s a w) := by
  unfold gStep
  split
  · rename_i c
    have le : Le t a.1 (upd a.1 w.1 w.2) := fun n _ => by
      unfold upd
      split
      · rename_i e; subst e; omega
      · exact Int.le_refl _
    refine ⟨le, fun M hM hl n hn => ?_, nofun, fun _ => .inr ?_⟩
    · show upd a.1 w.1 w.2 n ≤ M n
      unfold upd
      split
      · rename_i e
        subst e
        have := hl s.name (h.mem hs)
        exact hM s hs (by omega) w hw
      · exact hl n hn
    · obtain ⟨_, s', hs', e, _⟩ := h.want s hs w hw
      refine sum_lt _ (fun x hx => le _ (h.mem hx)) ⟨s', hs', ?_⟩
      show a.1 s'.name < upd a.1 w.1 w.2 s'.name
      rw [e]
      unfold upd
      rw [if_pos rfl]
      exact c.2
  · exact GR.refl
theorem gr_ws {t : Tr} (h : WF t) {s : Sk} (hs : s ∈ t.sks) : ∀ (ws : List (Str × Int)), (∀ w ∈ ws, w ∈ s.wants) → ∀ a, GR t a (ws.foldl (gStep s) a) ∧ ((ws.foldl (gStep s) a).2 = false → ∀ w ∈ ws, ¬ (0 < a.1 s.name ∧ a.1 w.1 < w.2))
  | [], _, a => ⟨GR.refl, fun _ => nofun⟩
  | w :: ws, hw, a => by
    have p := gr_step h hs (hw w (List.mem_cons_self ..)) a
    obtain ⟨q, r⟩ := gr_ws h hs ws (fun x m => hw x (.tail _ m)) (gStep s a w)
    rw [List.foldl_cons]
    refine ⟨p.trans q, fun f x m => ?_⟩
    obtain ⟨f1, f2⟩ := q.off f
    obtain ⟨_, e⟩ := p.off f1
    rcases List.mem_cons.mp m with rfl | m
    · intro c
      have : gStep s a x = (upd a.1 x.1 x.2, true) := if_pos c
      rw [this] at f1
      cases f1
    · have := r f x m
      rw [e] at this
      exact this
theorem gr_sks {t : Tr} (h : WF t) : ∀ (ss : List Sk), (∀ s ∈ ss, s ∈ t.sks) → ∀ a, GR t a (ss.foldl gSk a) ∧ ((ss.foldl gSk a).2 = false → ∀ s ∈ ss, ∀ w ∈ s.wants, ¬ (0 < a.1 s.name ∧ a.1 w.1 < w.2))
  | [], _, a => ⟨GR.refl, fun _ => nofun⟩
  | s :: ss, hs, a => by
    obtain ⟨p, p2⟩ := gr_ws h (hs s (List.mem_cons_self ..)) s.wants (fun _ m => m) a
    obtain ⟨q, r⟩ := gr_sks h ss (fun x m => hs x (.tail _ m)) (gSk a s)
    rw [List.foldl_cons]
    refine ⟨p.trans q, fun f x m => ?_⟩
    obtain ⟨f1, f2⟩ := q.off f
    obtain ⟨_, e⟩ := p.off f1
    rcases List.mem_cons.mp m with rfl | m
    · exact p2 f1
    · have := r f x m
      rw [e] at this
      exact this
theorem most_closed {t : Tr} (h : WF t) : Closed t t.mostOf := fun s hs _ w hw => by
  obtain ⟨_, s', hs', e, hl⟩ := h.want s hs w hw
  rw [← e, h.mostOf hs']
  exact hl
theorem sum18 {t : Tr} (h : WF t) {L : Lv} (hL : Le t L t.mostOf) : sumL t L ≤ 18 := by
  have := sum_bound (f := fun s : Sk => L s.name) (c := 3) t.sks fun s hs => by
    have := hL s.name (h.mem hs)
    rw [h.mostOf hs] at this
    have := h.most s hs
    omega
  have hl := h.len
  unfold sumL
  omega
abbrev grS (t : Tr) (lv : DL.D) (a : Lv × Bool) : Sl := [.val (encT t), .val lv, .own (lvD t a.1), .val (.bl a.2), .no, .no, .no, .no, .no, .no]
theorem put_lv {t : Tr} (h : WF t) {L : Lv} {n : Str} (hn : n ∈ t.names) {v : Int} : mmPut (lvD t L) [.int v, .str n] = some (lvD t (upd L n v)) := by
  have hl := h.len
  rw [mm_put (by simp only [List.length_map, sizeL]; omega), if_pos hn]
  congr 2
  funext m
  unfold upd
  split <;> rfl
theorem grow_ws {t : Tr} (h : WF t) {s : Sk} (hs : s ∈ t.sks) {lv : DL.D} (a : Lv × Bool) : forLoop [8, 9] (gTups [8, 9]) b_grown_3 (s.wants.map encW) [.val (encT t), .val lv, .own (lvD t a.1), .val (.bl a.2), .val (.str s.name), .val (.int s.most), .val (.int s.cost), .val (.tup (s.wants.map encW)), .no, .no] =
    .nx [.val (encT t), .val lv, .own (lvD t (gSk a s).1), .val (.bl (gSk a s).2), .val (.str s.name), .val (.int s.most), .val (.int s.cost), .val (.tup (s.wants.map encW)), .no, .no] := by
  refine for_fold0 (S := fun a : Lv × Bool => [.val (encT t), .val lv, .own (lvD t a.1), .val (.bl a.2), .val (.str s.name), .val (.int s.most), .val (.int s.cost), .val (.tup (s.wants.map encW)), .no, .no]) (step := gStep s) s.wants a fun w hw a => ?_
  have k1 : opIx (lvD t a.1) (.str s.name) = some (.dat (.int (a.1 s.name))) := op_ixD (h.mem hs)
  have k2 : opIx (lvD t a.1) (.str w.1) = some (.dat (.int (a.1 w.1))) := op_ixD (h.wmem hs hw)
  by_cases c : 0 < a.1 s.name ∧ a.1 w.1 < w.2
  · have e : gStep s a w = (upd a.1 w.1 w.2, true) := if_pos c
    rw [e]
    apply turn_nx
    focus (exists ())
    focus
      apply s_ifT (sl1 := [.val (encT t), .val lv, .own (lvD t a.1), .val (.bl a.2), .val (.str s.name), .val (.int s.most), .val (.int s.cost), .val (.tup (s.wants.map encW)), .val (.str w.1), .val (.int w.2)])
      focus
        have := rt_and (t := (mtVal (mBin opGt (mBin opIx (mVar 2) (mVar 4)) (mC (.int 0))))) (v := (mtVal (mBin opLt (mBin opIx (mVar 2) (mVar 8)) (mVar 9)))) (sl := [.val (encT t), .val lv, .own (lvD t a.1), .val (.bl a.2), .val (.str s.name), .val (.int s.most), .val (.int s.cost), .val (.tup (s.wants.map encW)), .val (.str w.1), .val (.int w.2)]) (by (exists k1)) (fun _ => by (exists k2))
        rw [decide_eq_true c.1, decide_eq_true c.2] at this
        exact this
      (exists put_lv h (h.wmem hs hw))
    focus (exists ())
  · have e : gStep s a w = a := if_neg c
    rw [e]
    apply turn_nx
    focus (exists ())
    focus
      apply s_ifF (sl1 := [.val (encT t), .val lv, .own (lvD t a.1), .val (.bl a.2), .val (.str s.name), .val (.int s.most), .val (.int s.cost), .val (.tup (s.wants.map encW)), .val (.str w.1), .val (.int w.2)])
      focus
        have := rt_and (t := (mtVal (mBin opGt (mBin opIx (mVar 2) (mVar 4)) (mC (.int 0))))) (v := (mtVal (mBin opLt (mBin opIx (mVar 2) (mVar 8)) (mVar 9)))) (sl := [.val (encT t), .val lv, .own (lvD t a.1), .val (.bl a.2), .val (.str s.name), .val (.int s.most), .val (.int s.cost), .val (.tup (s.wants.map encW)), .val (.str w.1), .val (.int w.2)]) (by (exists k1)) (fun _ => by (exists k2))
        have e : (decide (0 < a.1 s.name) && decide (a.1 w.1 < w.2)) = false := by
          rw [← Bool.decide_and, decide_eq_false c]
        rw [e] at this
        exact this
      (exists ())
    focus (exists ())
theorem grow_pass {t : Tr} (h : WF t) {lv : DL.D} (L : Lv) : wturn [4, 5, 6, 7, 8, 9] (mtVal (mVar 3)) b_grown_1 (grS t lv (L, true)) = .ct (grS t lv (gPass t (L, false))) := by
  have W := for_fold0 (dead := [4, 5, 6, 7, 8, 9]) (g := gTups [4, 5, 6, 7]) (b := b_grown_2) (enc := encSk) (S := grS t lv) (step := gSk) t.sks (L, false) fun s hs a => by
    apply turn_nx
    focus (exists ())
    focus
      apply s_for
      focus (exists ())
      focus (exists ())
      exact grow_ws h hs a
    focus (exists ())
  apply wturn_ct
  focus (exists ())
  focus
    (exists ())
    apply s_for
    focus (exists ())
    focus (exists ())
    exact W
  focus (exists ())
theorem grown_wh {t : Tr} (h : WF t) {lv : DL.D} : ∀ (n : Nat) (L : Lv), Le t L t.mostOf → 20 - sumL t L ≤ n →
    ∃ L', whileLoop [4, 5, 6, 7, 8, 9] (mtVal (mVar 3)) b_grown_1 n (grS t lv (L, true)) = .nx (grS t lv (L', false)) ∧ Grown t L L'
  | 0, L, hL, hn => by have := sum18 h hL; omega
  | n + 1, L, hL, hn => by
    rw [while_succ, grow_pass h]
    simp only
    obtain ⟨g, gc⟩ := gr_sks h t.sks (fun _ m => m) (L, false)
    have hL' : Le t (gPass t (L, false)).1 t.mostOf := g.min _ (most_closed h) hL
    cases e : (gPass t (L, false)).2 with
    | false =>
      obtain ⟨_, e2⟩ := g.off e
      have e3 : gPass t (L, false) = (L, false) := Prod.ext e2 e
      rw [e3]
      have h18 := sum18 h hL
      obtain ⟨m, rfl⟩ : ∃ m, n = m + 1 := ⟨n - 1, by omega⟩
      rw [while_succ, wturn_nx (sl1 := grS t lv (L, false)) (by (exists ()))]
      exact ⟨L, rfl, Le.refl, fun s hs hp w hw => by
        have := gc e s hs w hw
        simp only at this
        omega, fun M _ hl => hl⟩
    | true =>
      have up : sumL t L < sumL t (gPass t (L, false)).1 := by
        rcases g.on e with h1 | h1
        · cases h1
        · exact h1
      obtain ⟨L', W, q⟩ := grown_wh h n (gPass t (L, false)).1 hL' (by omega)
      have e3 : gPass t (L, false) = ((gPass t (L, false)).1, true) := Prod.ext rfl e
      rw [e3]
      exact ⟨L', W, g.le.trans q.le, q.cl, fun M hM hl => q.min M hM (g.min M hM hl)⟩
theorem e_grown {t : Tr} (h : WF t) {L : Lv} (hL : Le t L t.mostOf) (h0 : -20 ≤ sumL t L) : ∃ L', f_grown [.d (encT t), .d (lvD t L)] = .ret (lvD t L') true ∧ Grown t L L' := by
  obtain ⟨L', W, q⟩ := grown_wh h (lv := lvD t L) 40 L hL (by omega)
  refine ⟨L', ?_, q⟩
  have k : opDictA [lvD t L] = some (.new (lvD t L)) := rfl
  (unfold f_grown; apply DL.fn_ev; (focus (simp only [DL.wipeSl, DL.backSl, DL.gSet, DL.gTups, DL.gSets, DL.storeRv, List.set_cons_zero, List.set_cons_succ, List.getElem?_cons_zero, List.getElem?_cons_succ, DL.Slot.mine, DL.Slot.ofArg, Bool.false_eq_true, if_true, if_false, List.map_cons, List.map_nil, List.length_cons, List.length_nil, List.replicate, List.cons_append, List.nil_append, Nat.reduceSub, Nat.reduceAdd, DL.parSlot] <;> rfl)); (focus (unfold s_grown; exists k)))
  · apply s_seq
    focus
      apply s_while
      focus (exists ())
      exact W
    (exists ())
  · rfl
end SK
end
section
set_option linter.all false
set_option maxRecDepth 100000
set_option autoImplicit false
set_option maxHeartbeats 2000000
/-! goals, the least build, met, joined -/
namespace SK
open PySem DL SM
structure GoalsOk (t : Tr) (gs : List (Str × Int)) : Prop where
  ok : ∀ g ∈ gs, g.1 ∈ t.names ∧ 1 ≤ g.2 ∧ g.2 ≤ t.mostOf g.1
  nd : (gs.map (·.1)).Nodup
abbrev goalL (gs : List (Str × Int)) (L : Lv) : Lv := gs.foldl (fun L g => upd L g.1 g.2) L
abbrev zeroL : Lv := fun _ => 0
theorem GoalsOk.len {t : Tr} (h : WF t) {gs : List (Str × Int)} (g : GoalsOk t gs) : gs.length ≤ 6 := by
  have := nodup_sub g.nd (b := t.names) fun x hx => by
    obtain ⟨w, hw, rfl⟩ := List.mem_map.mp hx
    exact (g.ok w hw).1
  have hl := h.len
  simp only [List.length_map] at this
  omega
theorem e_need_goals {t : Tr} (h : WF t) {gs : List (Str × Int)} (g : GoalsOk t gs) : f_need_goals [.d (encT t), .d (.lst (gs.map encW))] = .ret .non false := by
  have hl := g.len h
  have z : gs.length ≤ sizeL := Nat.le_trans hl (by decide)
  have ks : opLenSet (.lst (gs.map fun w => .str w.1)) = some (.dat (.int gs.length)) := by
    have := lenSet_nd g.nd (by simp; omega)
    simpa [List.map_map, Function.comp_def] using this
  (unfold f_need_goals; apply DL.fn_ev; (focus (simp only [DL.wipeSl, DL.backSl, DL.gSet, DL.gTups, DL.gSets, DL.storeRv, List.set_cons_zero, List.set_cons_succ, List.getElem?_cons_zero, List.getElem?_cons_succ, DL.Slot.mine, DL.Slot.ofArg, Bool.false_eq_true, if_true, if_false, List.map_cons, List.map_nil, List.length_cons, List.length_nil, List.replicate, List.cons_append, List.nil_append, Nat.reduceSub, Nat.reduceAdd, DL.parSlot] <;> rfl)); (focus (unfold s_need_goals; exists ())))
  · apply s_seq
    focus
      apply s_for
      focus (exists ())
      focus (exists ())
      refine for_same _ fun w hw => ?_
      obtain ⟨hn, h1, h2⟩ := g.ok w hw
      obtain ⟨s, hs, e⟩ := List.mem_map.mp hn
      rw [← e, h.mostOf hs] at h2
      have kn := e_need_name h hn
      have k1 : ∀ s' ∈ t.sks, opEq (.str s'.name) (.str w.1) = some (.dat (.bl (decide (s'.name = s.name)))) := fun s' hs' => by rw [e]; exact op_eqS (h.oks hs') (h.okn hn)
      have k2 : opIx (.lst ((t.sks.filter fun x => decide (x.name = s.name)).map fun x => .int x.most)) (.int 0) = some (.dat (.int s.most)) := by
        rw [h.filt hs]; exact op_ixl0
      apply turn_ev
      focus (exists ())
      focus (exists kn, k1 _ ‹_›, k2, e_is_count _ _ _, h.size)
      · simp [h1, h2]
        rfl
      · (exists ())
    (exists ks, z)
  · simp [outRes]
theorem goal_fold {t : Tr} (h : WF t) {gs : List (Str × Int)} (hg : ∀ g ∈ gs, g.1 ∈ t.names) {x : DL.D} (L : Lv) : forLoop [3, 4] (gTups [3, 4]) b_goal_levels_1 (gs.map encW) [.val (encT t), .val x, .own (lvD t L), .no, .no] = .nx [.val (encT t), .val x, .own (lvD t (goalL gs L)), .no, .no] := by
  refine for_fold0 (S := fun L : Lv => [.val (encT t), .val x, .own (lvD t L), .no, .no]) (step := fun L g => upd L g.1 g.2) gs L fun g m L => ?_
  apply turn_nx
  focus (exists ())
  focus (exists put_lv h (hg g m))
  focus (exists ())
theorem goal_le {t : Tr} {gs : List (Str × Int)} (g : ∀ g ∈ gs, g.1 ∈ t.names ∧ 1 ≤ g.2 ∧ g.2 ≤ t.mostOf g.1) : ∀ (L : Lv), Le t L t.mostOf → (∀ n, 0 ≤ L n) → Le t (goalL gs L) t.mostOf ∧ ∀ n, 0 ≤ goalL gs L n := by
  induction gs with
  | nil => exact fun L a b => ⟨a, b⟩
  | cons x r ih =>
    intro L a b
    have hx := g x (List.mem_cons_self ..)
    refine ih (fun y m => g y (.tail _ m)) _ (fun n hn => ?_) fun n => ?_
    · simp only [upd]; split
      · rename_i e; subst e; exact hx.2.2
      · exact a n hn
    · simp only [upd]; split
      · omega
      · exact b n
theorem zero_tup {t : Tr} (h : WF t) : opMul (.tup [.int 0]) (.int ((t.sks.map encSk).length : Nat)) = some (.dat (rowD t zeroL)) := by
  have h1 := h.pos
  have h2 := h.len
  unfold opMul
  rw [List.length_map]
  simp only
  rw [if_pos ⟨by simp, by omega, by omega, by simp⟩]
  congr 3
  have : ∀ l : List Sk, (List.replicate l.length [DL.D.int 0]).flatten = l.map fun _ => DL.D.int 0 := fun l => by
    induction l with
    | nil => rfl
    | cons a r ih => simp only [List.length_cons, List.replicate_succ, List.flatten_cons, ih, List.map_cons]; rfl
  simpa using this t.sks
theorem zero_most {t : Tr} (h : WF t) : Le t zeroL t.mostOf := fun n hn => by
  obtain ⟨s, hs, rfl⟩ := List.mem_map.mp hn
  rw [h.mostOf hs]
  have := h.most s hs
  show (0 : Int) ≤ s.most
  omega
theorem sum_nn {t : Tr} {L : Lv} (h : ∀ n, 0 ≤ L n) : 0 ≤ sumL t L := by
  have := sum_le (f := fun _ : Sk => 0) (g := fun s : Sk => L s.name) t.sks fun s _ => h s.name
  have z : ∀ l : List Sk, (l.map fun _ => (0 : Int)).sum = 0 := fun l => by induction l with
    | nil => rfl
    | cons a r ih => simp [ih]
  rw [z] at this
  exact this
theorem e_goal_levels {t : Tr} (h : WF t) {gs : List (Str × Int)} (g : ∀ g ∈ gs, g.1 ∈ t.names ∧ 1 ≤ g.2 ∧ g.2 ≤ t.mostOf g.1) : ∃ L, f_goal_levels [.d (encT t), .d (.lst (gs.map encW))] = .ret (lvD t L) true ∧ Grown t (goalL gs zeroL) L := by
  obtain ⟨l1, l2⟩ := goal_le g zeroL (zero_most h) fun _ => Int.le_refl _
  obtain ⟨L, e, q⟩ := e_grown h l1 (by have := sum_nn (t := t) l2; omega)
  refine ⟨L, ?_, q⟩
  (unfold f_goal_levels; apply DL.fn_ev; (focus (simp only [DL.wipeSl, DL.backSl, DL.gSet, DL.gTups, DL.gSets, DL.storeRv, List.set_cons_zero, List.set_cons_succ, List.getElem?_cons_zero, List.getElem?_cons_succ, DL.Slot.mine, DL.Slot.ofArg, Bool.false_eq_true, if_true, if_false, List.map_cons, List.map_nil, List.length_cons, List.length_nil, List.replicate, List.cons_append, List.nil_append, Nat.reduceSub, Nat.reduceAdd, DL.parSlot] <;> rfl)); (focus (unfold s_goal_levels; exists zero_tup h, e_levels_of h zeroL)))
  · apply s_seq
    focus
      apply s_for
      focus (exists ())
      focus (exists ())
      exact goal_fold h (fun x m => (g x m).1) zeroL
    (exists e)
  · rfl
/-- the least build that has goals, or None -/
abbrev leastD (t : Tr) (L : Lv) : DL.D := if clashL t L = [] then rowD t L else .non
theorem e_least {t : Tr} (h : WF t) {gs : List (Str × Int)} (g : GoalsOk t gs) {L : Lv} (e : f_goal_levels [.d (encT t), .d (.lst (gs.map encW))] = .ret (lvD t L) true) : f_least [.d (encT t), .d (.lst (gs.map encW))] = .ret (leastD t L) false := by
  have k1 : opNe (.lst ((clashL t L).map encL)) (.lst []) = some (.dat (.bl (!decide (clashL t L = [])))) := by rw [ne_nil (clash_ld h L), map_nil]
  have k2 : ∀ s ∈ t.sks, opIx (lvD t L) (.str s.name) = some (.dat (.int (L s.name))) := fun s hs => op_ixD (h.mem hs)
  (unfold f_least; apply DL.fn_ev; (focus (simp only [DL.wipeSl, DL.backSl, DL.gSet, DL.gTups, DL.gSets, DL.storeRv, List.set_cons_zero, List.set_cons_succ, List.getElem?_cons_zero, List.getElem?_cons_succ, DL.Slot.mine, DL.Slot.ofArg, Bool.false_eq_true, if_true, if_false, List.map_cons, List.map_nil, List.length_cons, List.length_nil, List.replicate, List.cons_append, List.nil_append, Nat.reduceSub, Nat.reduceAdd, DL.parSlot] <;> rfl)); (focus (unfold s_least; exists e_need_tree h, e_need_goals h g, e, e_clashes h L, k1, e_names_of h, k2 _ ‹_›, h.size)))
  unfold leastD
  by_cases c : clashL t L = []
  · rw [if_pos c, decide_eq_true c]; rfl
  · rw [if_neg c, decide_eq_false c]; rfl
theorem e_barred {t : Tr} (h : WF t) {gs : List (Str × Int)} (g : GoalsOk t gs) {L : Lv} (e : f_goal_levels [.d (encT t), .d (.lst (gs.map encW))] = .ret (lvD t L) true) : f_barred_by [.d (encT t), .d (.lst (gs.map encW))] = .ret (.lst ((clashL t L).map encL)) true := by
  (unfold f_barred_by; apply DL.fn_ev; (focus (simp only [DL.wipeSl, DL.backSl, DL.gSet, DL.gTups, DL.gSets, DL.storeRv, List.set_cons_zero, List.set_cons_succ, List.getElem?_cons_zero, List.getElem?_cons_succ, DL.Slot.mine, DL.Slot.ofArg, Bool.false_eq_true, if_true, if_false, List.map_cons, List.map_nil, List.length_cons, List.length_nil, List.replicate, List.cons_append, List.nil_append, Nat.reduceSub, Nat.reduceAdd, DL.parSlot] <;> rfl)); (focus (unfold s_barred_by; exists e_need_tree h, e_need_goals h g, e, e_clashes h L)))
  rfl
theorem e_price {t : Tr} (h : WF t) {gs : List (Str × Int)} (g : GoalsOk t gs) {L : Lv} (e : f_goal_levels [.d (encT t), .d (.lst (gs.map encW))] = .ret (lvD t L) true) : f_price [.d (encT t), .d (.lst (gs.map encW))] = .ret (if clashL t L = [] then .int (costI t L) else .non) false := by
  have l := e_least h g e
  unfold leastD at l
  by_cases c : clashL t L = []
  · rw [if_pos c] at l ⊢
    have k : opIs (rowD t L) .non = some (.dat (.bl false)) := rfl
    (unfold f_price; apply DL.fn_ev; (focus (simp only [DL.wipeSl, DL.backSl, DL.gSet, DL.gTups, DL.gSets, DL.storeRv, List.set_cons_zero, List.set_cons_succ, List.getElem?_cons_zero, List.getElem?_cons_succ, DL.Slot.mine, DL.Slot.ofArg, Bool.false_eq_true, if_true, if_false, List.map_cons, List.map_nil, List.length_cons, List.length_nil, List.replicate, List.cons_append, List.nil_append, Nat.reduceSub, Nat.reduceAdd, DL.parSlot] <;> rfl)); (focus (unfold s_price; skip)))
    focus
      apply q_set
      focus (exists l)
      apply s_ret
      focus
        apply r_ifF
        focus (exists k)
        focus (exists e_cost_of h L)
      focus (exists ())
    rfl
  · rw [if_neg c] at l ⊢
    have k : opIs .non .non = some (.dat (.bl true)) := rfl
    (unfold f_price; apply DL.fn_ev; (focus (simp only [DL.wipeSl, DL.backSl, DL.gSet, DL.gTups, DL.gSets, DL.storeRv, List.set_cons_zero, List.set_cons_succ, List.getElem?_cons_zero, List.getElem?_cons_succ, DL.Slot.mine, DL.Slot.ofArg, Bool.false_eq_true, if_true, if_false, List.map_cons, List.map_nil, List.length_cons, List.length_nil, List.replicate, List.cons_append, List.nil_append, Nat.reduceSub, Nat.reduceAdd, DL.parSlot] <;> rfl)); (focus (unfold s_price; skip)))
    focus
      apply q_set
      focus (exists l)
      apply s_ret
      focus
        apply r_ifT
        focus (exists k)
        focus (exists ())
      focus (exists ())
    rfl
theorem op_minT2 {a b : Int} : opMinT [.tup [.int a, .int b]] = some (.dat (.int (min a b))) := rfl
theorem op_maxT2 {a b : Int} : opMaxT [.tup [.int a, .int b]] = some (.dat (.int (max a b))) := rfl
abbrev minL (A B : Lv) : Lv := fun n => min (A n) (B n)
abbrev maxL (A B : Lv) : Lv := fun n => max (A n) (B n)
/-- a build -/
def IsB (t : Tr) (L : Lv) : Prop := (areB t L && holdsB t L) = true
theorem e_met {t : Tr} (h : WF t) {A B : Lv} (a : IsB t A) (b : IsB t B) : f_met [.d (encT t), .d (rowD t A), .d (rowD t B)] = .ret (rowD t (minL A B)) false := by
  have na := e_need_build h A a
  have nb := e_need_build h B b
  (unfold f_met; apply DL.fn_ev; (focus (simp only [DL.wipeSl, DL.backSl, DL.gSet, DL.gTups, DL.gSets, DL.storeRv, List.set_cons_zero, List.set_cons_succ, List.getElem?_cons_zero, List.getElem?_cons_succ, DL.Slot.mine, DL.Slot.ofArg, Bool.false_eq_true, if_true, if_false, List.map_cons, List.map_nil, List.length_cons, List.length_nil, List.replicate, List.cons_append, List.nil_append, Nat.reduceSub, Nat.reduceAdd, DL.parSlot] <;> rfl)); (focus (unfold s_met; exists na, nb, w_zipSS, op_minT2, h.size)))
  rfl
theorem e_joined {t : Tr} (h : WF t) {A B : Lv} (a : IsB t A) (b : IsB t B) : f_joined [.d (encT t), .d (rowD t A), .d (rowD t B)] = .ret (if holdsB t (maxL A B) = true then rowD t (maxL A B) else .non) false := by
  have na := e_need_build h A a
  have nb := e_need_build h B b
  (unfold f_joined; apply DL.fn_ev; (focus (simp only [DL.wipeSl, DL.backSl, DL.gSet, DL.gTups, DL.gSets, DL.storeRv, List.set_cons_zero, List.set_cons_succ, List.getElem?_cons_zero, List.getElem?_cons_succ, DL.Slot.mine, DL.Slot.ofArg, Bool.false_eq_true, if_true, if_false, List.map_cons, List.map_nil, List.length_cons, List.length_nil, List.replicate, List.cons_append, List.nil_append, Nat.reduceSub, Nat.reduceAdd, DL.parSlot] <;> rfl)); (focus (unfold s_joined; exists na, nb, w_zipSS, op_maxT2, h.size, e_holds h (maxL A B))))
  rfl
end SK
end
section
set_option linter.all false
set_option maxRecDepth 100000
set_option autoImplicit false
set_option maxHeartbeats 2000000
/-! the laws' own levels: what is wrong, one more, a build -/
namespace SK
open PySem DL SM
abbrev wrongS (t : Tr) (L : Lv) (s : Sk) : List (Str × Str) := (lackL L s).map (fun w => (s.name, w.1)) ++ (t.locks.filter fun l => decide (l.1 = s.name) && decide (0 < L l.2)).map fun l => (s.name, l.2)
abbrev wrongStep (t : Tr) (L : Lv) (a : List (Str × Str)) (s : Sk) : List (Str × Str) := if 0 < L s.name then a ++ wrongS t L s else a
def wrongsL (t : Tr) (L : Lv) : List (Str × Str) := t.sks.foldl (wrongStep t L) []
abbrev flSlot (b : Bool) (d : DL.D) : Slot := if b = true then .own d else .val d
theorem e_wrongs {t : Tr} (h : WF t) (L : Lv) : ∃ fr, f__law_wrongs [.d (encT t), .d (rowD t L)] = .ret (.lst ((wrongsL t L).map encL)) fr := by
  have kz : opDictZ [.lst (t.names.map DL.D.str), rowD t L] = some (.new (lvD t L)) := by
    have := op_dictZ (f := fun n => .int (L n)) h.nd
    rw [List.map_map (g := fun n => DL.D.int (L n))] at this
    exact this
  have kn : f__law_names [.d (encT t)] = .ret (.lst (t.names.map DL.D.str)) true := by
    (unfold f__law_names; apply DL.fn_ev; (focus (simp only [DL.wipeSl, DL.backSl, DL.gSet, DL.gTups, DL.gSets, DL.storeRv, List.set_cons_zero, List.set_cons_succ, List.getElem?_cons_zero, List.getElem?_cons_succ, DL.Slot.mine, DL.Slot.ofArg, Bool.false_eq_true, if_true, if_false, List.map_cons, List.map_nil, List.length_cons, List.length_nil, List.replicate, List.cons_append, List.nil_append, Nat.reduceSub, Nat.reduceAdd, DL.parSlot] <;> rfl)); (focus (unfold s__law_names; exists h.size)))
    simp only [List.map_map]; rfl
  have W := for_inv (dead := [4, 5, 6, 7]) (g := gTups [4, 5, 6, 7]) (b := b__law_wrongs_1) (enc := encSk) (S := fun a : Bool × List (Str × Str) => [.val (encT t), .val (rowD t L), .val (lvD t L), flSlot a.1 (.lst (a.2.map encL)), .no, .no, .no, .no, .no, .no, .no]) (fun i a => a.2 = (t.sks.take i).foldl (wrongStep t L) [] ∧ a.2.length ≤ 9 * i) t.sks 0 (false, []) ⟨rfl, Nat.le_refl _⟩ ?_
  · obtain ⟨a, W, p, _⟩ := W
    rw [Nat.zero_add, List.take_length] at p
    have p : a.2 = wrongsL t L := p
    rw [← p]
    refine ⟨a.1, ?_⟩
    obtain ⟨b, l⟩ := a
    cases b
    · (unfold f__law_wrongs; apply DL.fn_ev; (focus (simp only [DL.wipeSl, DL.backSl, DL.gSet, DL.gTups, DL.gSets, DL.storeRv, List.set_cons_zero, List.set_cons_succ, List.getElem?_cons_zero, List.getElem?_cons_succ, DL.Slot.mine, DL.Slot.ofArg, Bool.false_eq_true, if_true, if_false, List.map_cons, List.map_nil, List.length_cons, List.length_nil, List.replicate, List.cons_append, List.nil_append, Nat.reduceSub, Nat.reduceAdd, DL.parSlot] <;> rfl)); (focus (unfold s__law_wrongs; exists kn, kz)))
      · apply s_seq
        focus
          apply s_for
          focus (exists ())
          focus (exists ())
          exact W
        (exists ())
      · rfl
    · (unfold f__law_wrongs; apply DL.fn_ev; (focus (simp only [DL.wipeSl, DL.backSl, DL.gSet, DL.gTups, DL.gSets, DL.storeRv, List.set_cons_zero, List.set_cons_succ, List.getElem?_cons_zero, List.getElem?_cons_succ, DL.Slot.mine, DL.Slot.ofArg, Bool.false_eq_true, if_true, if_false, List.map_cons, List.map_nil, List.length_cons, List.length_nil, List.replicate, List.cons_append, List.nil_append, Nat.reduceSub, Nat.reduceAdd, DL.parSlot] <;> rfl)); (focus (unfold s__law_wrongs; exists kn, kz)))
      · apply s_seq
        focus
          apply s_for
          focus (exists ())
          focus (exists ())
          exact W
        (exists ())
      · rfl
  · intro i s a hi ⟨p, pl⟩
    have hs := List.mem_of_getElem? hi
    rw [Nat.zero_add] at p pl ⊢
    have pf : (t.sks.take (i + 1)).foldl (wrongStep t L) [] = wrongStep t L a.2 s := by
      rw [List.take_add_one, hi, List.foldl_append, ← p]; rfl
    have i6 : i < 6 := by
      have := (List.getElem?_eq_some_iff.mp hi).1
      have := h.len
      omega
    have k1 : opIx (lvD t L) (.str s.name) = some (.dat (.int (L s.name))) := op_ixD (h.mem hs)
    have k2 : ∀ w ∈ s.wants, opIx (lvD t L) (.str w.1) = some (.dat (.int (L w.1))) := fun w hw => op_ixD (h.wmem hs hw)
    have k3 : ∀ l ∈ t.locks, opIx (lvD t L) (.str l.2) = some (.dat (.int (L l.2))) := fun l hl => op_ixD (h.lock l hl).2.1
    have k4 : ∀ l ∈ t.locks, opEq (.str l.1) (.str s.name) = some (.dat (.bl (decide (l.1 = s.name)))) := fun l hl => op_eqS (h.okn (h.lock l hl).1) (h.oks hs)
    have z1 : (lackL L s).length ≤ 6 := Nat.le_trans (List.length_filter_le _ _) (h.wlen hs)
    have z2 : (t.locks.filter fun l => decide (l.1 = s.name) && decide (0 < L l.2)).length ≤ 3 := Nat.le_trans (List.length_filter_le _ _) h.llen
    have k5 : opAdd (.lst (a.2.map encL)) (.lst ((lackL L s).map fun w => .tup [.str s.name, .str w.1])) = some (.new (.lst ((a.2 ++ (lackL L s).map fun w => (s.name, w.1)).map encL))) := by
      rw [op_addL (by simp only [List.length_map, sizeL]; omega), List.map_append, List.map_map]; rfl
    have k6 : opAdd (.lst ((a.2 ++ (lackL L s).map fun w => (s.name, w.1)).map encL)) (.lst ((t.locks.filter fun l => decide (l.1 = s.name) && decide (0 < L l.2)).map fun l => .tup [.str s.name, .str l.2])) = some (.new (.lst ((a.2 ++ wrongS t L s).map encL))) := by
      rw [op_addL (by simp only [List.length_map, List.length_append, sizeL]; omega)]
      simp only [List.map_append, List.map_map, List.append_assoc]; rfl
    by_cases c : 0 < L s.name
    · refine ⟨(true, a.2 ++ wrongS t L s), ?_, ?_, ?_⟩
      · have kc : opGt (.int (L s.name)) (.int 0) = some (.dat (.bl true)) := by rw [op_gtI, decide_eq_true c]
        obtain ⟨b, l⟩ := a
        apply turn_nx
        focus (exists ())
        focus
          cases b <;> (apply s_ifT; (focus (exists k1, kc)); ((exists k2 _ ‹_›, k3 _ ‹_›, k4 _ ‹_›, k5, k6, h.wsize hs, h.lsize)))
        focus (exists ())
      · rw [pf]; exact (if_pos c).symm
      · simp only [List.length_append, List.length_map]; omega
    · refine ⟨a, ?_, ?_, by omega⟩
      · have kc : opGt (.int (L s.name)) (.int 0) = some (.dat (.bl false)) := by rw [op_gtI, decide_eq_false c]
        obtain ⟨b, l⟩ := a
        cases b <;> (apply turn_nx; (focus (exists ())); (focus (apply s_ifF; (focus (exists k1, kc)); ((exists ())))); (focus (exists ())))
      · rw [pf]; exact (if_neg c).symm
theorem wrong_fold {t : Tr} {L : Lv} : ∀ (ss : List Sk) (a : List (Str × Str)), ss.foldl (wrongStep t L) a = [] ↔ a = [] ∧ ∀ s ∈ ss, 0 < L s.name → wrongS t L s = []
  | [], a => by simp
  | s :: ss, a => by
    rw [List.foldl_cons, wrong_fold ss]
    unfold wrongStep
    by_cases c : 0 < L s.name
    · rw [if_pos c, List.append_eq_nil_iff]
      simp only [List.mem_cons, forall_eq_or_imp]
      exact ⟨fun ⟨⟨a1, a2⟩, a3⟩ => ⟨a1, fun _ => a2, a3⟩, fun ⟨a1, a2, a3⟩ => ⟨⟨a1, a2 c⟩, a3⟩⟩
    · rw [if_neg c]
      simp only [List.mem_cons, forall_eq_or_imp]
      exact ⟨fun ⟨a1, a3⟩ => ⟨a1, fun q => absurd q c, a3⟩, fun ⟨a1, _, a3⟩ => ⟨a1, a3⟩⟩
/-- no lock of which both are had -/
def NoClash (t : Tr) (L : Lv) : Prop := ∀ l ∈ t.locks, ¬ (0 < L l.1 ∧ 0 < L l.2)
theorem clash_nil {t : Tr} {L : Lv} : clashL t L = [] ↔ NoClash t L := by
  unfold clashL NoClash
  rw [List.filter_eq_nil_iff]
  exact ⟨fun a l hl => by simpa using a l hl, fun a l hl => by simpa using a l hl⟩
theorem lack_nil {L : Lv} {s : Sk} : lackL L s = [] ↔ ∀ w ∈ s.wants, w.2 ≤ L w.1 := by
  unfold lackL
  rw [List.filter_eq_nil_iff]
  exact ⟨fun a l hl => by simpa using a l hl, fun a l hl => by simpa using a l hl⟩
def NonNeg (t : Tr) (L : Lv) : Prop := ∀ n ∈ t.names, 0 ≤ L n
theorem holds_iff {t : Tr} (h : WF t) {L : Lv} (hL : NonNeg t L) : holdsB t L = true ↔ NoClash t L ∧ Closed t L := by
  unfold holdsB
  rw [Bool.and_eq_true, decide_eq_true_eq, clash_nil, List.all_eq_true]
  refine and_congr Iff.rfl ⟨fun a s hs hp => ?_, fun a s hs => ?_⟩
  · have := a s hs
    simp only [Bool.or_eq_true, decide_eq_true_eq] at this
    rcases this with z | z
    · omega
    · exact lack_nil.mp z
  · simp only [Bool.or_eq_true, decide_eq_true_eq]
    have := hL s.name (h.mem hs)
    by_cases c : L s.name = 0
    · exact .inl c
    · exact .inr (lack_nil.mpr (a s hs (by omega)))
theorem wrongs_iff {t : Tr} (h : WF t) {L : Lv} : wrongsL t L = [] ↔ NoClash t L ∧ Closed t L := by
  unfold wrongsL
  rw [wrong_fold]
  simp only [true_and, wrongS, List.append_eq_nil_iff, List.map_eq_nil_iff]
  constructor
  · intro a
    refine ⟨fun l hl ⟨c1, c2⟩ => ?_, fun s hs hp => lack_nil.mp (a s hs hp).1⟩
    obtain ⟨s, hs, e⟩ := List.mem_map.mp (h.lock l hl).1
    have := (a s hs (e ▸ c1)).2
    rw [List.filter_eq_nil_iff] at this
    have := this l hl
    simp [e, c2] at this
  · intro ⟨a, b⟩ s hs hp
    refine ⟨lack_nil.mpr (b s hs hp), ?_⟩
    rw [List.filter_eq_nil_iff]
    intro l hl
    simp only [Bool.and_eq_true, decide_eq_true_eq]
    rintro ⟨e, c⟩
    exact a l hl ⟨e ▸ hp, c⟩
theorem are_iff {t : Tr} (h : WF t) {L : Lv} : areB t L = true ↔ NonNeg t L ∧ Le t L t.mostOf := by
  unfold areB
  rw [List.all_eq_true]
  constructor
  · intro a
    refine ⟨fun n hn => ?_, fun n hn => ?_⟩ <;>
    · obtain ⟨s, hs, rfl⟩ := List.mem_map.mp hn
      have := a s hs
      simp only [Bool.and_eq_true, decide_eq_true_eq] at this
      first | exact this.1 | (rw [h.mostOf hs]; exact this.2)
  · intro ⟨a, b⟩ s hs
    have h1 := a _ (h.mem hs)
    have h2 := b _ (h.mem hs)
    rw [h.mostOf hs] at h2
    simp [h1, h2]
structure Build (t : Tr) (L : Lv) : Prop where
  nn : NonNeg t L
  le : Le t L t.mostOf
  nc : NoClash t L
  cl : Closed t L
theorem isB_iff {t : Tr} (h : WF t) {L : Lv} : IsB t L ↔ Build t L := by
  unfold IsB
  rw [Bool.and_eq_true, are_iff h]
  constructor
  · rintro ⟨⟨a, b⟩, c⟩
    obtain ⟨d, e⟩ := (holds_iff h a).mp c
    exact ⟨a, b, d, e⟩
  · rintro ⟨a, b, c, d⟩
    exact ⟨⟨a, b⟩, (holds_iff h a).mpr ⟨c, d⟩⟩
end SK
end
section
set_option linter.all false
set_option maxRecDepth 100000
set_option autoImplicit false
set_option maxHeartbeats 2000000
/-! one level more, a build made -/
namespace SK
open PySem DL SM
theorem cutT_take {xs : List DL.D} {i : Nat} : opCut none (some (i : Int)) (.tup xs) = some (.dat (.tup (xs.take i))) := by
  unfold opCut
  simp only [cutL, slIx]
  rw [if_neg (by omega)]
  simp [List.take_eq_take_iff]
theorem cutT_drop {xs : List DL.D} {i : Nat} : opCut (some ((i : Int) + 1)) none (.tup xs) = some (.dat (.tup (xs.drop (i + 1)))) := by
  unfold opCut
  simp only [cutL, slIx]
  rw [if_neg (by omega)]
  have e : ((i : Int) + 1).toNat = i + 1 := by omega
  rw [e]
  congr 3
  rw [List.take_of_length_le (by simp only [List.length_drop]; omega)]
  by_cases c : i + 1 ≤ xs.length
  · rw [Nat.min_eq_left c]
  · rw [Nat.min_eq_right (by omega), List.drop_of_length_le (Nat.le_refl _), List.drop_of_length_le (by omega)]
theorem row_up {t : Tr} (h : WF t) {L : Lv} {i : Nat} {s : Sk} (hi : t.sks[i]? = some s) {v : Int} :
    (t.sks.map fun s => DL.D.int (L s.name)).take i ++ [.int v] ++ (t.sks.map fun s => DL.D.int (L s.name)).drop (i + 1) = t.sks.map fun s' => .int (upd L s.name v s'.name) := by
  obtain ⟨hl, e⟩ := List.getElem?_eq_some_iff.mp hi
  have := List.set_eq_take_append_cons_drop (l := t.sks.map fun s => DL.D.int (L s.name)) (i := i) (a := .int v)
  rw [if_pos (by simpa using hl)] at this
  rw [List.append_assoc, List.singleton_append, ← this]
  apply List.ext_getElem
  · simp
  intro j h1 h2
  simp only [List.length_map] at h2
  rw [List.getElem_set]
  simp only [List.getElem_map]
  unfold upd
  by_cases c : i = j
  · subst c
    rw [if_pos rfl, if_pos (by rw [e])]
  · rw [if_neg c, if_neg]
    intro c2
    have c2 := c2.trans (congrArg Sk.name e.symm)
    have nd := h.nd
    unfold Tr.names at nd
    have := (List.getElem_inj (xs := t.sks.map Sk.name) (i := j) (j := i) (h₀ := by simpa using h2) (h₁ := by simpa using hl) nd).mp (by simpa using c2)
    omega
theorem w_enumT {α : Type} {f : α → DL.D} {l : List α} : enumAny [.tup (l.map f)] = some (l.zipIdx.map fun p => .tup [.int (p.2 : Nat), f p.1]) := by
  simp only [enumAny, seqOf?, Option.map_some, enumFrom_eq]
theorem e_law_ups {t : Tr} (h : WF t) (L : Lv) : ∃ Ms : List Lv, f__law_ups [.d (encT t), .d (rowD t L)] = .ret (.lst (Ms.map (rowD t))) true ∧ Ms.length ≤ 6 ∧ ∀ M ∈ Ms, ∃ s ∈ t.sks, L s.name < s.most ∧ M = upd L s.name (L s.name + 1) := by
  have W := for_inv (dead := [3, 4]) (g := gTups [3, 4]) (b := b__law_ups_1) (enc := fun p : Sk × Nat => .tup [.int (p.2 : Nat), encSk p.1]) (S := fun l : List Lv => [.val (encT t), .val (rowD t L), .own (.lst (l.map (rowD t))), .no, .no])
    (fun i l => l.length ≤ i ∧ ∀ M ∈ l, ∃ s ∈ t.sks, L s.name < s.most ∧ M = upd L s.name (L s.name + 1)) t.sks.zipIdx 0 [] ⟨Nat.le_refl _, nofun⟩ ?_
  · obtain ⟨Ms, W, p1, p2⟩ := W
    have hl := h.len
    refine ⟨Ms, ?_, by simp only [List.length_zipIdx] at p1; omega, p2⟩
    (unfold f__law_ups; apply DL.fn_ev; (focus (simp only [DL.wipeSl, DL.backSl, DL.gSet, DL.gTups, DL.gSets, DL.storeRv, List.set_cons_zero, List.set_cons_succ, List.getElem?_cons_zero, List.getElem?_cons_succ, DL.Slot.mine, DL.Slot.ofArg, Bool.false_eq_true, if_true, if_false, List.map_cons, List.map_nil, List.length_cons, List.length_nil, List.replicate, List.cons_append, List.nil_append, Nat.reduceSub, Nat.reduceAdd, DL.parSlot] <;> rfl)); (focus (unfold s__law_ups; exists ())))
    · apply s_seq
      focus
        apply s_for
        focus (exists w_enumT)
        focus (exists ())
        exact W
      (exists ())
    · rfl
  · rintro j ⟨s, i⟩ l hj ⟨q1, q2⟩
    have hi : t.sks[i]? = some s := by
      have := List.mem_of_getElem? hj
      rw [List.mem_zipIdx_iff_getElem?] at this
      exact this
    have hs := List.mem_of_getElem? hi
    have hl := h.len
    have hj6 : j < 6 := by
      have := (List.getElem?_eq_some_iff.mp hj).1
      simp only [List.length_zipIdx] at this
      omega
    have k1 : opIx (rowD t L) (.int (i : Nat)) = some (.dat (.int (L s.name))) := op_ixt (atD_nat (by rw [List.getElem?_map, hi]; rfl))
    have k2 : opCut none (some ((i : Nat) : Int)) (rowD t L) = some (.dat (.tup ((t.sks.map fun s => DL.D.int (L s.name)).take i))) := cutT_take
    have k3 : opCut (some (((i : Nat) : Int) + 1)) none (rowD t L) = some (.dat (.tup ((t.sks.map fun s => DL.D.int (L s.name)).drop (i + 1)))) := cutT_drop
    have k4 : opAdd (.tup ((t.sks.map fun s => DL.D.int (L s.name)).take i)) (.tup [.int (L s.name + 1)]) = some (.dat (.tup ((t.sks.map fun s => DL.D.int (L s.name)).take i ++ [.int (L s.name + 1)]))) := op_addT (by simp only [List.length_take, List.length_map, List.length_singleton, sizeL]; omega)
    have k5 : opAdd (.tup ((t.sks.map fun s => DL.D.int (L s.name)).take i ++ [.int (L s.name + 1)])) (.tup ((t.sks.map fun s => DL.D.int (L s.name)).drop (i + 1))) = some (.dat (rowD t (upd L s.name (L s.name + 1)))) := by
      rw [op_addT (by simp only [List.length_append, List.length_take, List.length_drop, List.length_map, List.length_singleton, sizeL]; omega), row_up h hi]
    by_cases c : L s.name < s.most
    · refine ⟨l ++ [upd L s.name (L s.name + 1)], ?_, by simp only [List.length_append, List.length_singleton]; omega, fun M hM => ?_⟩
      · have kc : opLt (.int (L s.name)) (.int s.most) = some (.dat (.bl true)) := by rw [op_ltI, decide_eq_true c]
        have k6 : mmAppend (.lst (l.map (rowD t))) [rowD t (upd L s.name (L s.name + 1))] = some (.lst ((l ++ [upd L s.name (L s.name + 1)]).map (rowD t))) := by
          rw [mm_app (by simp only [List.length_map, sizeL]; omega), List.map_append]; rfl
        apply turn_nx
        focus (exists ())
        focus
          apply s_ifT
          focus (exists k1, kc)
          focus (exists k1, k2, k3, k4, k5, k6)
        focus (exists ())
      · rcases List.mem_append.mp hM with m | m
        · exact q2 M m
        · exact ⟨s, hs, c, List.mem_singleton.mp m⟩
    · refine ⟨l, ?_, by omega, q2⟩
      have kc : opLt (.int (L s.name)) (.int s.most) = some (.dat (.bl false)) := by rw [op_ltI, decide_eq_false c]
      apply turn_nx
      focus (exists ())
      focus
        apply s_ifF
        focus (exists k1, kc)
        focus (exists ())
      focus (exists ())
theorem Build.zero {t : Tr} (h : WF t) : Build t zeroL := ⟨fun _ _ => Int.le_refl _, zero_most h, fun _ _ c => Int.lt_irrefl 0 c.1, fun _ _ c => absurd c (Int.lt_irrefl 0)⟩
theorem Build.up {t : Tr} (h : WF t) {L : Lv} (b : Build t L) {s : Sk} (hs : s ∈ t.sks) (c : L s.name < s.most) (w : wrongsL t (upd L s.name (L s.name + 1)) = []) : Build t (upd L s.name (L s.name + 1)) := by
  obtain ⟨w1, w2⟩ := (wrongs_iff h).mp w
  have := b.nn _ (h.mem hs)
  refine ⟨fun n hn => ?_, fun n hn => ?_, w1, w2⟩
  · unfold upd
    split
    · omega
    · exact b.nn n hn
  · unfold upd
    split
    · rename_i e
      rw [e, h.mostOf hs]
      omega
    · exact b.le n hn
def rvOf (b : Bool) (d : DL.D) : Rv := if b = true then .new d else .dat d
theorem res_rvOf {b : Bool} {d : DL.D} : resRv (.ret d b) = some (rvOf b d) := by cases b <;> rfl
theorem rvOf_get {b : Bool} {d : DL.D} {sl : Sl} : Rv.get sl (Rv.fix (rvOf b d)) = some d := by cases b <;> rfl
theorem wrongs_ld {t : Tr} (h : WF t) (L : Lv) : DL.D.laids ((wrongsL t L).map encL) = true := by
  have : ∀ (ss : List Sk) (a : List (Str × Str)), (∀ s ∈ ss, s ∈ t.sks) → (∀ l ∈ a, l.1 ∈ t.names ∧ l.2 ∈ t.names) → ∀ l ∈ ss.foldl (wrongStep t L) a, l.1 ∈ t.names ∧ l.2 ∈ t.names := by
    intro ss
    induction ss with
    | nil => exact fun a _ q => q
    | cons s ss ih =>
      intro a hs q
      rw [List.foldl_cons]
      refine ih _ (fun x m => hs x (.tail _ m)) fun l hl => ?_
      have hs := hs s (List.mem_cons_self ..)
      unfold wrongStep at hl
      split at hl
      · rcases List.mem_append.mp hl with m | m
        · exact q l m
        · rcases List.mem_append.mp m with m | m
          · obtain ⟨w, hw, rfl⟩ := List.mem_map.mp m
            exact ⟨h.mem hs, h.wmem hs (List.mem_filter.mp hw).1⟩
          · obtain ⟨w, hw, rfl⟩ := List.mem_map.mp m
            exact ⟨h.mem hs, (h.lock w (List.mem_filter.mp hw).1).2.1⟩
      · exact q l hl
  exact laids_map fun l hl => eqT_l.laid l (by
    have := this t.sks [] (fun _ m => m) nofun l hl
    exact ⟨h.okn this.1, h.okn this.2⟩)
theorem e_law_build {t : Tr} (h : WF t) (m : Int) : ∃ L, f__law_build [.d (encT t), .d (.int m)] = .ret (rowD t L) false ∧ Build t L := by
  have W := for_inv (dead := [3, 4]) (g := gSet 3) (b := b__law_build_1) (enc := fun i : Nat => DL.D.int (i : Nat)) (S := fun L : Lv => [.val (encT t), .val (.int m), .val (rowD t L), .no, .no, .no])
    (fun _ L => Build t L) (List.range (m % 14).toNat) 0 zeroL (Build.zero h) ?_
  · obtain ⟨L, W, p⟩ := W
    refine ⟨L, ?_, p⟩
    have km : opMod (.int m) (.int 14) = some (.dat (.int (m % 14))) := op_mod (by decide)
    have kr : rangeOf [.int (m % 14)] = some ((List.range (m % 14).toNat).map fun i => .int (i : Nat)) := w_range (by omega)
    (unfold f__law_build; apply DL.fn_ev; (focus (simp only [DL.wipeSl, DL.backSl, DL.gSet, DL.gTups, DL.gSets, DL.storeRv, List.set_cons_zero, List.set_cons_succ, List.getElem?_cons_zero, List.getElem?_cons_succ, DL.Slot.mine, DL.Slot.ofArg, Bool.false_eq_true, if_true, if_false, List.map_cons, List.map_nil, List.length_cons, List.length_nil, List.replicate, List.cons_append, List.nil_append, Nat.reduceSub, Nat.reduceAdd, DL.parSlot] <;> rfl)); (focus (unfold s__law_build; exists zero_tup h)))
    · apply s_seq
      focus
        apply s_for
        focus (exists km, kr)
        focus (exists ())
        exact W
      (exists ())
    · rfl
  · intro i x L _ b
    obtain ⟨Ms, e1, e2, e3⟩ := e_law_ups h L
    obtain ⟨fr, e4⟩ : ∃ fr : Lv → Bool, ∀ M, f__law_wrongs [.d (encT t), .d (rowD t M)] = .ret (.lst ((wrongsL t M).map encL)) (fr M) := ⟨fun M => Classical.choose (e_wrongs h M), fun M => Classical.choose_spec (e_wrongs h M)⟩
    have kz : ∀ M d, resRv (.ret d (fr M)) = some (rvOf (fr M) d) := fun _ _ => res_rvOf
    have z : Ms.length ≤ sizeL := Nat.le_trans e2 (by decide)
    have k1 : ∀ M, opEq (.lst ((wrongsL t M).map encL)) (.lst []) = some (.dat (.bl (decide (wrongsL t M = [])))) := fun M => by rw [eq_nil (wrongs_ld h M), map_nil]
    have k2 : opNe (.lst ((Ms.filter fun M => decide (wrongsL t M = [])).map (rowD t))) (.lst []) = some (.dat (.bl (!decide (Ms.filter (fun M => decide (wrongsL t M = [])) = [])))) := by
      rw [ne_nil, map_nil]
      exact laids_map fun M _ => laids_map fun _ _ => rfl
    have LC : Es (msSet 4 (mLc [5] (miSeq (mCall f__law_ups (maCons (mVar 0) (maCons (mVar 2) (maNil))))) (gSet 5) (mtVal (mBin opEq (mCall f__law_wrongs (maCons (mVar 0) (maCons (mVar 5) (maNil)))) (mLst (maNil)))) (mVar 5))) [.val (encT t), .val (.int m), .val (rowD t L), .val (.int x), .no, .no] (.nx [.val (encT t), .val (.int m), .val (rowD t L), .val (.int x), .own (.lst ((Ms.filter fun M => decide (wrongsL t M = [])).map (rowD t))), .no]) := by
      (exists e1, e4 _, k1 _, kz _ _, rvOf_get, z)
    have hQ : ∀ M ∈ Ms.filter (fun M => decide (wrongsL t M = [])), Build t M := fun M hM => by
      obtain ⟨m1, m2⟩ := List.mem_filter.mp hM
      obtain ⟨s, hs, c, rfl⟩ := e3 M m1
      exact b.up h hs c (of_decide_eq_true m2)
    have zQ : (Ms.filter (fun M => decide (wrongsL t M = []))).length ≤ 6 := Nat.le_trans (List.length_filter_le _ _) e2
    generalize Ms.filter (fun M => decide (wrongsL t M = [])) = Q at k2 LC hQ zQ
    have kd := e_drawn m x
    by_cases c : Q = []
    · refine ⟨L, ?_, b⟩
      rw [decide_eq_true c] at k2
      apply turn_nx
      focus (exists ())
      focus
        apply q_set LC
        apply s_set
        focus
          apply r_ifF
          focus (exists k2)
          focus (exists ())
        focus (exists ())
      focus (exists ())
    · have hp : 0 < Q.length := List.length_pos_iff.mpr c
      have k3 : opMod (.int (drawnI m x / 8)) (.int ((Q.length : Nat) : Int)) = some (.dat (.int (drawnI m x / 8 % (Q.length : Int)))) := op_mod (by omega)
      have k8 : opFdiv (.int (drawnI m x)) (.int 8) = some (.dat (.int (drawnI m x / 8))) := op_fdiv (by decide) (by decide)
      have r1 := Int.emod_nonneg (drawnI m x / 8) (b := (Q.length : Int)) (by omega)
      have r2 := Int.emod_lt_of_pos (drawnI m x / 8) (b := (Q.length : Int)) (by omega)
      generalize drawnI m x / 8 % (Q.length : Int) = r at k3 r1 r2
      have hr : r.toNat < Q.length := by omega
      have k4 : opIx (.lst (Q.map (rowD t))) (.int r) = some (.dat (rowD t Q[r.toNat])) := op_ixl (atD_int r1 (by rw [List.getElem?_map, List.getElem?_eq_getElem hr]; rfl))
      have k5 : opLen [.lst (Q.map (rowD t))] = some (.dat (.int ((Q.length : Nat) : Int))) := by rw [op_lenL, List.length_map]
      rw [decide_eq_false c] at k2
      refine ⟨Q[r.toNat], ?_, hQ _ (List.getElem_mem hr)⟩
      apply turn_nx
      focus (exists ())
      focus
        apply q_set LC
        apply s_set
        focus
          apply r_ifT
          focus (exists k2)
          focus (exists kd, k8, k5, k3, k4)
        focus (exists ())
      focus (exists ())
end SK
end
section
set_option linter.all false
set_option maxRecDepth 100000
set_option autoImplicit false
set_option maxHeartbeats 2000000
/-! trees without locks, met and joined in any turn -/
namespace SK
open PySem DL SM
abbrev Tr.free (t : Tr) : Tr := ⟨t.sks, []⟩
theorem WF.free {t : Tr} (h : WF t) : WF t.free := ⟨h.pos, h.len, h.nd, h.nm, h.most, h.cost, h.wnd, h.want, h.ring, nofun, List.nodup_nil, Nat.zero_le _⟩
theorem Build.free {t : Tr} {L : Lv} (b : Build t L) : Build t.free L := ⟨b.nn, b.le, nofun, b.cl⟩
theorem Build.minB {t : Tr} (h : WF t) {A B : Lv} (a : Build t A) (b : Build t B) : Build t (minL A B) := by
  refine ⟨fun n hn => ?_, fun n hn => ?_, fun l hl c => ?_, fun s hs c w hw => ?_⟩
  · have := a.nn n hn
    have := b.nn n hn
    show 0 ≤ min (A n) (B n)
    omega
  · have := a.le n hn
    show min (A n) (B n) ≤ _
    omega
  · have c1 : 0 < min (A l.1) (B l.1) := c.1
    have c2 : 0 < min (A l.2) (B l.2) := c.2
    exact a.nc l hl ⟨by omega, by omega⟩
  · have c : 0 < min (A s.name) (B s.name) := c
    have := a.cl s hs (by omega) w hw
    have := b.cl s hs (by omega) w hw
    show w.2 ≤ min (A w.1) (B w.1)
    omega
theorem Build.maxB {t : Tr} (h : WF t) {A B : Lv} (a : Build t.free A) (b : Build t.free B) : Build t.free (maxL A B) := by
  refine ⟨fun n hn => ?_, fun n hn => ?_, nofun, fun s hs c w hw => ?_⟩
  · have := a.nn n hn
    show 0 ≤ max (A n) (B n)
    omega
  · have := a.le n hn
    have := b.le n hn
    show max (A n) (B n) ≤ _
    omega
  · have c : 0 < max (A s.name) (B s.name) := c
    show w.2 ≤ max (A w.1) (B w.1)
    by_cases c2 : 0 < A s.name
    · have := a.cl s hs c2 w hw
      omega
    · have := b.cl s hs (by omega) w hw
      omega
theorem minL_comm {A B : Lv} : minL B A = minL A B := by funext n; show min _ _ = min _ _; omega
theorem maxL_comm {A B : Lv} : maxL B A = maxL A B := by funext n; show max _ _ = max _ _; omega
theorem minL_self {A : Lv} : minL A A = A := by funext n; show min _ _ = _; omega
theorem maxL_self {A : Lv} : maxL A A = A := by funext n; show max _ _ = _; omega
theorem minL_assoc {A B C : Lv} : minL A (minL B C) = minL (minL A B) C := by funext n; show min _ (min _ _) = min (min _ _) _; omega
theorem maxL_assoc {A B C : Lv} : maxL A (maxL B C) = maxL (maxL A B) C := by funext n; show max _ (max _ _) = max (max _ _) _; omega
theorem minL_max {A B : Lv} : minL A (maxL A B) = A := by funext n; show min _ (max _ _) = _; omega
theorem maxL_min {A B : Lv} : maxL A (minL A B) = A := by funext n; show max _ (min _ _) = _; omega
theorem Build.hold {t : Tr} (h : WF t) {A : Lv} (a : Build t A) : holdsB t A = true := (holds_iff h a.nn).mpr ⟨a.nc, a.cl⟩
abbrev encF (t : Tr) : DL.D := .tup [.tup (t.sks.map encSk), .tup []]
theorem e_joinedF {t : Tr} (h : WF t) {A B : Lv} (a : Build t.free A) (b : Build t.free B) : f_joined [.d (encF t), .d (rowD t A), .d (rowD t B)] = .ret (rowD t (maxL A B)) false := by
  have := e_joined h.free ((isB_iff h.free).mpr a) ((isB_iff h.free).mpr b)
  rw [if_pos ((a.maxB h b).hold h.free)] at this
  exact this
theorem e_metF {t : Tr} (h : WF t) {A B : Lv} (a : Build t.free A) (b : Build t.free B) : f_met [.d (encF t), .d (rowD t A), .d (rowD t B)] = .ret (rowD t (minL A B)) false :=
  e_met h.free ((isB_iff h.free).mpr a) ((isB_iff h.free).mpr b)
theorem e_metB {t : Tr} (h : WF t) {A B : Lv} (a : Build t A) (b : Build t B) : f_met [.d (encT t), .d (rowD t A), .d (rowD t B)] = .ret (rowD t (minL A B)) false :=
  e_met h ((isB_iff h).mpr a) ((isB_iff h).mpr b)
theorem row_ld {t : Tr} {L : Lv} : (rowD t L).laid = true := laids_map fun _ _ => rfl
theorem row_dep {t : Tr} {L : Lv} : (rowD t L).dep ≤ 1 := by
  have : DL.D.deps (t.sks.map fun s => DL.D.int (L s.name)) ≤ 0 := deps_map fun _ _ => Nat.le_refl _
  show DL.D.deps (t.sks.map fun s => DL.D.int (L s.name)) + 1 ≤ 1
  omega
theorem row_ne {t : Tr} {L : Lv} : opNe (rowD t L) (rowD t L) = some (.dat (.bl false)) := ne_self row_ld (Nat.le_trans row_dep (by decide))
theorem three_in {t : Tr} {L : Lv} {d : DL.D} (h : d = .non ∨ d = rowD t L) : opInT d (.tup [.non, rowD t L]) = some (.dat (.bl true)) := by
  have e : (opInT d (.tup [.non, rowD t L])) = some (.dat (.bl ([.non, rowD t L].any fun z => DL.D.eqv z d))) := by
    unfold opInT
    have hd := row_dep (t := t) (L := L)
    have hl := row_ld (t := t) (L := L)
    have ds : DL.D.deps [.non, rowD t L] ≤ 60 := by
      show max (DL.D.dep .non) (max (DL.D.dep (rowD t L)) 0) ≤ 60
      have : DL.D.dep .non = 0 := rfl
      omega
    have ls : DL.D.laids [.non, rowD t L] = true := by
      show (DL.D.laid .non && (DL.D.laid (rowD t L) && true)) = true
      rw [hl]; rfl
    simp only
    rw [if_pos]
    rcases h with rfl | rfl
    · exact ⟨rfl, ls, Nat.zero_le _, ds⟩
    · exact ⟨hl, ls, by omega, ds⟩
  rw [e]
  rcases h with rfl | rfl
  · rfl
  · have : DL.D.eqv (rowD t L) (rowD t L) = true := eqv_refl _ row_ld
    simp [this]
theorem e_three_right {t : Tr} (h : WF t) {A B C : Lv} (a : Build t A) (b : Build t B) (c : Build t C) : f__law_three_right [.d (encT t), .d (rowD t A), .d (rowD t B), .d (rowD t C)] = .ret (.bl true) false := by
  have m1 := e_metB h a b
  have m2 := e_metB h b a
  have m3 := e_metB h a a
  have m4 := e_metB h (a.minB h b) c
  have m5 := e_metB h b c
  have m6 := e_metB h a (b.minB h c)
  have af := a.free
  have bf := b.free
  have cf := c.free
  have j0 : f_joined [.d (encT t), .d (rowD t A), .d (rowD t A)] = .ret (rowD t A) false := by
    have := e_joined h ((isB_iff h).mpr a) ((isB_iff h).mpr a)
    rw [maxL_self, if_pos (a.hold h)] at this
    exact this
  have j1 := e_joinedF h af bf
  have j2 := e_joinedF h bf af
  have j3 := e_metF h af (af.maxB h bf)
  have j4 := e_joinedF h af ((a.minB h b).free)
  have j5 := e_joinedF h (af.maxB h bf) cf
  have j6 := e_joinedF h bf cf
  have j7 := e_joinedF h af (bf.maxB h cf)
  rw [minL_comm] at m2
  rw [minL_self] at m3
  rw [minL_assoc] at m6
  rw [maxL_comm] at j2
  rw [minL_max] at j3
  rw [maxL_min] at j4
  rw [maxL_assoc] at j7
  have j8 := e_joined h ((isB_iff h).mpr a) ((isB_iff h).mpr b)
  have j9 := three_in (t := t) (L := maxL A B) (d := if holdsB t (maxL A B) = true then rowD t (maxL A B) else .non) (by split <;> simp)
  generalize (if holdsB t (maxL A B) = true then rowD t (maxL A B) else .non) = jd at j8 j9
  have k1 : opIsNot (rowD t (maxL A B)) .non = some (.dat (.bl true)) := rfl
  have ne := @row_ne t
  (unfold f__law_three_right; apply DL.fn_ev; (focus (simp only [DL.wipeSl, DL.backSl, DL.gSet, DL.gTups, DL.gSets, DL.storeRv, List.set_cons_zero, List.set_cons_succ, List.getElem?_cons_zero, List.getElem?_cons_succ, DL.Slot.mine, DL.Slot.ofArg, Bool.false_eq_true, if_true, if_false, List.map_cons, List.map_nil, List.length_cons, List.length_nil, List.replicate, List.cons_append, List.nil_append, Nat.reduceSub, Nat.reduceAdd, DL.parSlot] <;> rfl)); (focus (unfold s__law_three_right; exists m1, m2, m3, m4, m5, m6, j0, j1, j2, j3, j4, j5, j6, j7, j8, j9, k1, ne)))
  rfl
end SK
end
section
set_option linter.all false
set_option maxRecDepth 100000
set_option autoImplicit false
/-! the shortest rows: two ways to find them -/
namespace SK
open PySem DL
def rowsL (t : Tr) (ot : Str) : Nat → Str → List (List Str)
  | 0, nm => if nm = ot then [[nm]] else []
  | k + 1, nm => if nm = ot then [[nm]] else (t.succ nm).flatMap fun w => (rowsL t ot k w).map (nm :: ·)
def pth (t : Tr) : Nat → Str → List (List Str)
  | 0, nm => [[nm]]
  | k + 1, nm => (t.succ nm).flatMap fun w => (pth t k w).map (nm :: ·)
abbrev ext (t : Tr) (p : Row) : List Row := (t.succ p.2).map fun v => (p.1 ++ [p.2], v)
def prs (t : Tr) (nm : Str) : Nat → List Row
  | 0 => [([], nm)]
  | k + 1 => (prs t nm k).flatMap (ext t)
theorem WF.rank {t : Tr} (h : WF t) : ∃ rk : Str → Nat, (∀ n, rk n < 7) ∧ ∀ n, ∀ w ∈ t.succ n, rk w < rk n := by
  obtain ⟨rk, hr⟩ := h.ring
  refine ⟨fun n => min (rk n) 6, fun n => by show min (rk n) 6 < 7; omega, fun n w hw => ?_⟩
  unfold Tr.succ at hw
  cases e : t.sk? n with
  | none => rw [e] at hw; cases hw
  | some s =>
    rw [e] at hw
    have hs : s ∈ t.sks := List.mem_of_find?_eq_some e
    have en : s.name = n := by simpa using List.find?_some e
    obtain ⟨x, hx, rfl⟩ := List.mem_map.mp hw
    have := hr s hs
    have := this.2 x hx
    show min (rk x.1) 6 < min (rk n) 6
    rw [← en]
    omega
theorem pth_last {t : Tr} {rk : Str → Nat} (hr : ∀ n, ∀ w ∈ t.succ n, rk w < rk n) : ∀ (k : Nat) (nm : Str), ∀ r ∈ pth t k nm, ∃ l, r.getLast? = some l ∧ r.length = k + 1 ∧ rk l + k ≤ rk nm
  | 0, nm, r, h => by
    simp only [pth, List.mem_singleton] at h
    subst h
    exact ⟨nm, rfl, rfl, by omega⟩
  | k + 1, nm, r, h => by
    rw [pth, List.mem_flatMap] at h
    obtain ⟨w, hw, h⟩ := h
    obtain ⟨r', hr', rfl⟩ := List.mem_map.mp h
    obtain ⟨l, h1, h2, h3⟩ := pth_last hr k w r' hr'
    have := hr nm w hw
    refine ⟨l, ?_, by simp [h2], by omega⟩
    rw [List.getLast?_cons, h1]
    rfl
theorem rows_len {t : Tr} {ot : Str} : ∀ (k : Nat) (nm : Str), ∀ r ∈ rowsL t ot k nm, 1 ≤ r.length ∧ r.length ≤ k + 1
  | 0, nm, r, h => by
    unfold rowsL at h
    split at h
    · simp only [List.mem_singleton] at h; subst h; simp
    · cases h
  | k + 1, nm, r, h => by
    unfold rowsL at h
    split at h
    · simp only [List.mem_singleton] at h; subst h; simp
    · obtain ⟨w, hw, h⟩ := List.mem_flatMap.mp h
      obtain ⟨r', hr', rfl⟩ := List.mem_map.mp h
      have := rows_len k w r' hr'
      simp only [List.length_cons]
      omega
theorem filter_flatMap {α β : Type} (f : α → List β) (p : β → Bool) : ∀ l : List α, (l.flatMap f).filter p = l.flatMap fun a => (f a).filter p
  | [] => rfl
  | a :: r => by rw [List.flatMap_cons, List.filter_append, filter_flatMap f p r, List.flatMap_cons]
theorem rows_pth {t : Tr} {ot : Str} {rk : Str → Nat} (hr : ∀ n, ∀ w ∈ t.succ n, rk w < rk n) : ∀ (K k : Nat) (nm : Str), k ≤ K → (rowsL t ot K nm).filter (fun r => decide (r.length = k + 1)) = (pth t k nm).filter fun r => decide (r.getLast? = some ot)
  | K, 0, nm, _ => by
    have e : pth t 0 nm = [[nm]] := rfl
    rw [e]
    have : rowsL t ot K nm = if nm = ot then [[nm]] else rowsL t ot K nm := by
      cases K <;> (unfold rowsL; split <;> rfl)
    by_cases c : nm = ot
    · rw [this, if_pos c]; simp [c]
    · have e2 : ([[nm]] : List (List Str)).filter (fun r => decide (r.getLast? = some ot)) = [] := by simp [c]
      rw [e2, List.filter_eq_nil_iff]
      intro r hrm
      cases K with
      | zero => unfold rowsL at hrm; rw [if_neg c] at hrm; cases hrm
      | succ K =>
        unfold rowsL at hrm
        rw [if_neg c] at hrm
        obtain ⟨w, hw, h⟩ := List.mem_flatMap.mp hrm
        obtain ⟨r', hr', rfl⟩ := List.mem_map.mp h
        have := rows_len K w r' hr'
        simp only [List.length_cons, decide_eq_true_eq]
        omega
  | 0, k + 1, nm, h => by omega
  | K + 1, k + 1, nm, h => by
    by_cases c : nm = ot
    · have e : rowsL t ot (K + 1) nm = [[nm]] := by unfold rowsL; rw [if_pos c]
      rw [e]
      have e2 : ([[nm]] : List (List Str)).filter (fun r => decide (r.length = k + 1 + 1)) = [] := by simp
      rw [e2, eq_comm, List.filter_eq_nil_iff]
      intro r hrm
      obtain ⟨l, h1, h2, h3⟩ := pth_last hr (k + 1) nm r hrm
      rw [h1]
      simp only [decide_eq_true_eq, Option.some.injEq]
      intro e
      rw [e, ← c] at h3
      omega
    · have e : rowsL t ot (K + 1) nm = (t.succ nm).flatMap fun w => (rowsL t ot K w).map (nm :: ·) := by rw [rowsL, if_neg c]
      rw [e, pth, filter_flatMap, filter_flatMap]
      congr 1
      funext w
      rw [List.filter_map, List.filter_map]
      have e1 : ((fun r : List Str => decide (r.length = k + 1 + 1)) ∘ fun x => nm :: x) = fun r => decide (r.length = k + 1) := by
        funext r
        simp
      have ih := rows_pth (ot := ot) hr K k w (by omega)
      rw [e1, ih]
      congr 1
      apply List.filter_congr
      intro r hrm
      obtain ⟨l, h1, h2, h3⟩ := pth_last hr k w r hrm
      simp [List.getLast?_cons, h1]
theorem flatMap_assoc {α β γ : Type} (f : α → List β) (g : β → List γ) : ∀ l : List α, (l.flatMap f).flatMap g = l.flatMap fun a => (f a).flatMap g
  | [] => rfl
  | a :: r => by rw [List.flatMap_cons, List.flatMap_append, flatMap_assoc f g r, List.flatMap_cons]
theorem flatMap_map' {α β γ : Type} (f : α → β) (g : β → List γ) : ∀ l : List α, (l.map f).flatMap g = l.flatMap fun a => g (f a)
  | [] => rfl
  | a :: r => by rw [List.map_cons, List.flatMap_cons, flatMap_map' f g r, List.flatMap_cons]
theorem map_flatMap' {α β γ : Type} (f : α → List β) (g : β → γ) : ∀ l : List α, (l.flatMap f).map g = l.flatMap fun a => (f a).map g
  | [] => rfl
  | a :: r => by rw [List.flatMap_cons, List.map_append, map_flatMap' f g r, List.flatMap_cons]
/-- a row before which a name is put -/
abbrev pre (nm : Str) (p : Row) : Row := (nm :: p.1, p.2)
theorem ext_pre {t : Tr} {nm : Str} {p : Row} : ext t (pre nm p) = (ext t p).map (pre nm) := by
  simp [ext, pre, List.map_map, Function.comp_def]
theorem prs_succ {t : Tr} : ∀ (k : Nat) (nm : Str), prs t nm (k + 1) = (t.succ nm).flatMap fun w => (prs t w k).map (pre nm)
  | 0, nm => by
    rw [prs, prs]
    simp only [List.flatMap_cons, List.flatMap_nil, List.append_nil]
    show ((t.succ nm).map fun v => (([] : List Str) ++ [nm], v)) = (t.succ nm).flatMap fun w => [pre nm ([], w)]
    induction t.succ nm with
    | nil => rfl
    | cons a r ih =>
      rw [List.map_cons, ih]
      rfl
  | k + 1, nm => by
    rw [prs, prs_succ k nm, flatMap_assoc]
    congr 1
    funext w
    rw [prs, flatMap_map', map_flatMap']
    congr 1
    funext p
    exact ext_pre
theorem prs_pth {t : Tr} : ∀ (k : Nat) (nm : Str), (prs t nm k).map (fun p => p.1 ++ [p.2]) = pth t k nm
  | 0, nm => rfl
  | k + 1, nm => by
    rw [prs_succ, pth, map_flatMap']
    congr 1
    funext w
    rw [← prs_pth k w, List.map_map, List.map_map]
    rfl
/-! levels -/
abbrev prune1 (a : List Str × List Row) (p : Row) : List Str × List Row := if p.2 ∈ a.1 then a else (a.1 ++ [p.2], a.2 ++ [p])
theorem bfsStep_prune {t : Tr} {rows : List Row} {seen : List Str} : bfsStep t rows seen = (rows.flatMap (ext t)).foldl prune1 (seen, []) := by
  rw [List.foldl_flatMap]
  unfold bfsStep
  congr 1
  funext a p
  unfold bfsF ext
  rw [List.foldl_map]
theorem prune_find (q : Str → Bool) : ∀ (l : List Row) (a : List Str × List Row), (∀ v ∈ a.1, q v = true → (a.2.find? fun p => q p.2).isSome) → (l.foldl prune1 a).2.find? (fun p => q p.2) = (a.2 ++ l).find? fun p => q p.2
  | [], a, _ => by simp
  | r :: l, a, h => by
    rw [List.foldl_cons]
    by_cases c : r.2 ∈ a.1
    · have e : prune1 a r = a := if_pos c
      rw [e, prune_find q l a h, List.find?_append, List.find?_append, List.find?_cons]
      cases hq : q r.2 with
      | true =>
        obtain ⟨x, hx⟩ := Option.isSome_iff_exists.mp (h r.2 c hq)
        rw [hx]
        rfl
      | false => rfl
    · have e : prune1 a r = (a.1 ++ [r.2], a.2 ++ [r]) := if_neg c
      rw [e, prune_find q l]
      · simp
      · intro v hv hq
        rw [List.find?_append]
        rcases List.mem_append.mp hv with m | m
        · obtain ⟨x, hx⟩ := Option.isSome_iff_exists.mp (h v m hq)
          rw [hx]
          rfl
        · simp only [List.mem_singleton] at m
          subst m
          cases a.2.find? fun p => q p.2 with
          | some x => rfl
          | none => simp [hq]
theorem prune_mem : ∀ (l : List Row) (a : List Str × List Row), (∀ v ∈ a.1, v ∈ (l.foldl prune1 a).1) ∧ (∀ p ∈ l, p.2 ∈ (l.foldl prune1 a).1) ∧ (∀ v ∈ (l.foldl prune1 a).1, v ∈ a.1 ∨ ∃ p ∈ (l.foldl prune1 a).2, p.2 = v) ∧ (∀ p ∈ a.2, p ∈ (l.foldl prune1 a).2) ∧ ∀ p ∈ (l.foldl prune1 a).2, p ∈ a.2 ∨ p ∈ l
  | [], a => ⟨fun _ h => h, nofun, fun _ h => .inl h, fun _ h => h, fun _ h => .inl h⟩
  | r :: l, a => by
    rw [List.foldl_cons]
    obtain ⟨h1, h2, h3, h4, h5⟩ := prune_mem l (prune1 a r)
    by_cases c : r.2 ∈ a.1
    · have e : prune1 a r = a := if_pos c
      rw [e] at h1 h2 h3 h4 h5 ⊢
      refine ⟨h1, fun p hp => ?_, h3, h4, fun p hp => ?_⟩
      · rcases List.mem_cons.mp hp with rfl | m
        · exact h1 _ c
        · exact h2 p m
      · rcases h5 p hp with m | m
        · exact .inl m
        · exact .inr (.tail _ m)
    · have e : prune1 a r = (a.1 ++ [r.2], a.2 ++ [r]) := if_neg c
      rw [e] at h1 h2 h3 h4 h5 ⊢
      refine ⟨fun v hv => h1 v (List.mem_append.mpr (.inl hv)), fun p hp => ?_, fun v hv => ?_, fun p hp => h4 p (List.mem_append.mpr (.inl hp)), fun p hp => ?_⟩
      · rcases List.mem_cons.mp hp with rfl | m
        · exact h1 _ (List.mem_append.mpr (.inr (List.mem_singleton.mpr rfl)))
        · exact h2 p m
      · rcases h3 v hv with m | m
        · rcases List.mem_append.mp m with m | m
          · exact .inl m
          · exact .inr ⟨r, h4 r (List.mem_append.mpr (.inr (List.mem_singleton.mpr rfl))), (List.mem_singleton.mp m).symm⟩
        · exact .inr m
      · rcases h5 p hp with m | m
        · rcases List.mem_append.mp m with m | m
          · exact .inl m
          · exact .inr (List.mem_singleton.mp m ▸ List.mem_cons_self ..)
        · exact .inr (.tail _ m)
theorem find_flat {t : Tr} (q : Str → Bool) (l : List Row) : (l.flatMap (ext t)).find? (fun p => q p.2) = (l.find? fun p => (t.succ p.2).any q).bind fun p => (ext t p).find? fun r => q r.2 := by
  induction l with
  | nil => rfl
  | cons a r ih =>
    rw [List.flatMap_cons, List.find?_append, ih, List.find?_cons]
    cases c : (t.succ a.2).any q with
    | true =>
      obtain ⟨w, hw, hq⟩ := List.any_eq_true.mp c
      have : ((ext t a).find? fun r => q r.2).isSome := by
        rw [List.find?_isSome]
        exact ⟨_, List.mem_map_of_mem hw, hq⟩
      obtain ⟨x, hx⟩ := Option.isSome_iff_exists.mp this
      simp only [Option.bind_some, hx, Option.some_or]
    | false =>
      have : (ext t a).find? (fun r => q r.2) = none := by
        rw [List.find?_eq_none]
        intro x hx
        obtain ⟨w, hw, rfl⟩ := List.mem_map.mp hx
        rw [List.any_eq_false] at c
        simpa using c w hw
      simp only [this, Option.none_or]
/-- levels of the search -/
def lvl (t : Tr) (nm : Str) : Nat → List Str × List Row
  | 0 => ([nm], [([], nm)])
  | k + 1 => bfsStep t (lvl t nm k).2 (lvl t nm k).1
def old (t : Tr) (nm : Str) : Nat → List Str
  | 0 => []
  | k + 1 => (lvl t nm k).1
structure LvP (t : Tr) (nm : Str) (k : Nat) : Prop where
  find : ∀ q : Str → Bool, (∀ v ∈ old t nm k, q v = false) → (lvl t nm k).2.find? (fun p => q p.2) = (prs t nm k).find? fun p => q p.2
  cl : ∀ v ∈ old t nm k, ∀ w ∈ t.succ v, w ∈ (lvl t nm k).1
  sub : ∀ v ∈ old t nm k, v ∈ (lvl t nm k).1
  new : ∀ v ∈ (lvl t nm k).1, v ∈ old t nm k ∨ ∃ p ∈ (lvl t nm k).2, p.2 = v
  mem : ∀ p ∈ (lvl t nm k).2, p ∈ prs t nm k
theorem lvP {t : Tr} {nm : Str} : ∀ k, LvP t nm k
  | 0 => ⟨fun _ _ => rfl, nofun, nofun, fun v hv => .inr ⟨_, List.mem_singleton.mpr rfl, (List.mem_singleton.mp hv).symm⟩, fun _ h => h⟩
  | k + 1 => by
    have p := lvP (t := t) (nm := nm) k
    have e : lvl t nm (k + 1) = ((lvl t nm k).2.flatMap (ext t)).foldl prune1 ((lvl t nm k).1, []) := bfsStep_prune
    obtain ⟨h1, h2, h3, h4, h5⟩ := prune_mem ((lvl t nm k).2.flatMap (ext t)) ((lvl t nm k).1, [])
    rw [← e] at h1 h2 h3 h4 h5
    refine ⟨fun q hq => ?_, fun v hv w hw => ?_, h1, h3, fun p' hp' => ?_⟩
    · rw [e, prune_find q _ _ (fun v hv c => by rw [hq v hv] at c; cases c), List.nil_append, prs, find_flat, find_flat]
      rw [p.find (fun u => (t.succ u).any q) fun v hv => ?_]
      rw [List.any_eq_false]
      intro w hw
      rw [hq w (p.cl v hv w hw)]
      decide
    · rcases p.new v hv with m | ⟨r, hr, rfl⟩
      · exact h1 w (p.cl v m w hw)
      · exact h2 (r.1 ++ [r.2], w) (List.mem_flatMap.mpr ⟨r, hr, List.mem_map_of_mem hw⟩)
    · rcases h5 p' hp' with m | m
      · cases m
      · obtain ⟨r, hr, hm⟩ := List.mem_flatMap.mp m
        exact List.mem_flatMap.mpr ⟨r, p.mem r hr, hm⟩
theorem old_mem {t : Tr} {nm : Str} : ∀ (k : Nat) (v : Str), v ∈ old t nm k → ∃ j < k, ∃ p ∈ prs t nm j, p.2 = v
  | 0, v, h => by cases h
  | k + 1, v, h => by
    rcases (lvP (t := t) (nm := nm) k).new v h with m | ⟨p, hp, e⟩
    · obtain ⟨j, hj, r⟩ := old_mem k v m
      exact ⟨j, by omega, r⟩
    · exact ⟨k, by omega, p, (lvP k).mem p hp, e⟩
/-- the first that is found from level k on -/
def ff (t : Tr) (nm ot : Str) : Nat → Nat → Option Row
  | 0, _ => none
  | n + 1, k => ((prs t nm k).find? fun p => decide (p.2 = ot)).or (ff t nm ot n (k + 1))
theorem bfs_ff {t : Tr} {nm ot : Str} : ∀ (n k : Nat), (∀ j < k, (prs t nm j).find? (fun p => decide (p.2 = ot)) = none) → bfs t ot n (lvl t nm k).2 (lvl t nm k).1 = ff t nm ot n k
  | 0, _, _ => rfl
  | n + 1, k, h => by
    have e := (lvP (t := t) (nm := nm) k).find (fun v => decide (v = ot)) fun v hv => by
      obtain ⟨j, hj, p, hp, e⟩ := old_mem k v hv
      have := List.find?_eq_none.mp (h j hj) p hp
      rw [e] at this
      simpa using this
    rw [bfs, ff, e]
    cases c : (prs t nm k).find? fun p => decide (p.2 = ot) with
    | some p => rfl
    | none =>
      have := bfs_ff n (k + 1) fun j hj => by
        by_cases d : j = k
        · subst d; exact c
        · exact h j (by omega)
      show bfs t ot n _ _ = (none : Option Row).or _
      rw [Option.none_or]
      exact this
theorem chain_ff {t : Tr} {nm ot : Str} : chainO t nm ot = ff t nm ot 12 0 := bfs_ff 12 0 (by omega)
theorem ff_some {t : Tr} {nm ot : Str} : ∀ (n k : Nat) (p : Row), ff t nm ot n k = some p → ∃ j, k ≤ j ∧ j < k + n ∧ (prs t nm j).find? (fun p => decide (p.2 = ot)) = some p ∧ ∀ i, k ≤ i → i < j → (prs t nm i).find? (fun p => decide (p.2 = ot)) = none
  | 0, _, _, h => by cases h
  | n + 1, k, p, h => by
    rw [ff] at h
    cases c : (prs t nm k).find? fun p => decide (p.2 = ot) with
    | some p' =>
      rw [c] at h
      exact ⟨k, Nat.le_refl _, by omega, c.trans h, by omega⟩
    | none =>
      rw [c] at h
      obtain ⟨j, h1, h2, h3, h4⟩ := ff_some n (k + 1) p h
      refine ⟨j, by omega, by omega, h3, fun i hi hj => ?_⟩
      by_cases d : i = k
      · subst d; exact c
      · exact h4 i (by omega) hj
theorem ff_none {t : Tr} {nm ot : Str} : ∀ (n k : Nat), ff t nm ot n k = none → ∀ j, k ≤ j → j < k + n → (prs t nm j).find? (fun p => decide (p.2 = ot)) = none
  | 0, k, _, j, h1, h2 => by omega
  | n + 1, k, h, j, h1, h2 => by
    rw [ff] at h
    cases c : (prs t nm k).find? fun p => decide (p.2 = ot) with
    | some p' => rw [c] at h; cases h
    | none =>
      rw [c] at h
      by_cases d : j = k
      · subst d; exact c
      · exact ff_none n (k + 1) h j (by omega) (by omega)
theorem listMin_spec : ∀ l : List Int, l ≠ [] → listMin l ∈ l ∧ ∀ x ∈ l, listMin l ≤ x
  | [], h => absurd rfl h
  | [a], _ => ⟨List.mem_singleton.mpr rfl, fun x hx => by simp only [List.mem_singleton] at hx; subst hx; exact Int.le_refl _⟩
  | a :: b :: r, _ => by
    obtain ⟨h1, h2⟩ := listMin_spec (b :: r) (by simp)
    have e : listMin (a :: b :: r) = min a (listMin (b :: r)) := rfl
    rw [e]
    refine ⟨?_, fun x hx => ?_⟩
    · by_cases c : a ≤ listMin (b :: r)
      · rw [Int.min_eq_left c]; exact List.mem_cons_self ..
      · rw [Int.min_eq_right (by omega)]; exact .tail _ h1
    · rcases List.mem_cons.mp hx with rfl | m
      · omega
      · have := h2 x m; omega
/-- the law's own shortest rows -/
abbrev sizeOf' (t : Tr) (nm ot : Str) : Int := listMin ((rowsL t ot 6 nm).map (fun r => (r.length : Int)) ++ [99])
abbrev someL (t : Tr) (nm ot : Str) : List (List Str) := (rowsL t ot 6 nm).filter fun r => decide ((r.length : Int) = sizeOf' t nm ot)
theorem chain_some {t : Tr} (h : WF t) {nm ot : Str} : (chainO t nm ot).map (fun p => p.1 ++ [p.2]) = (someL t nm ot).head? := by
  obtain ⟨rk, r7, hr⟩ := h.rank
  have key : ∀ k, k ≤ 6 → (rowsL t ot 6 nm).filter (fun r => decide (r.length = k + 1)) = ((prs t nm k).filter fun p => decide (p.2 = ot)).map fun p => p.1 ++ [p.2] := fun k hk => by
    rw [rows_pth hr 6 k nm hk, ← prs_pth, List.filter_map]
    congr 1
    apply List.filter_congr
    intro p _
    simp
  have long : ∀ j, 7 ≤ j → prs t nm j = [] := fun j hj => by
    have : (prs t nm j).map (fun p => p.1 ++ [p.2]) = [] := by
      rw [prs_pth]
      rw [List.eq_nil_iff_forall_not_mem]
      intro r hrm
      obtain ⟨l, _, _, h3⟩ := pth_last hr j nm r hrm
      have := r7 nm
      omega
    simpa using this
  obtain ⟨m1, m2⟩ := listMin_spec ((rowsL t ot 6 nm).map (fun r => (r.length : Int)) ++ [99]) (by simp)
  rw [chain_ff]
  cases c : ff t nm ot 12 0 with
  | none =>
    have f := ff_none 12 0 c
    have e : rowsL t ot 6 nm = [] := by
      rw [List.eq_nil_iff_forall_not_mem]
      intro r hrm
      have l := rows_len 6 nm r hrm
      have m : r ∈ (rowsL t ot 6 nm).filter (fun r => decide (r.length = (r.length - 1) + 1)) := by
        rw [List.mem_filter]
        exact ⟨hrm, by simp only [decide_eq_true_eq]; omega⟩
      have m : r ∈ (rowsL t ot 6 nm).filter (fun r' => decide (r'.length = (r.length - 1) + 1)) := by
        rw [List.mem_filter]
        exact ⟨hrm, by simp only [decide_eq_true_eq]; omega⟩
      rw [key (r.length - 1) (by omega)] at m
      obtain ⟨p, hp, _⟩ := List.mem_map.mp m
      have := List.find?_eq_none.mp (f (r.length - 1) (by omega) (by omega)) p (List.mem_filter.mp hp).1
      exact this (List.mem_filter.mp hp).2
    unfold someL
    rw [e]
    rfl
  | some p =>
    obtain ⟨j, _, hj, f1, f2⟩ := ff_some 12 0 p c
    have j6 : j ≤ 6 := by
      by_cases d : j ≤ 6
      · exact d
      · rw [long j (by omega)] at f1; cases f1
    have hp := List.find?_some f1
    have mp := List.mem_of_find?_eq_some f1
    have hd : ((prs t nm j).filter fun p => decide (p.2 = ot)).head? = some p := by rw [List.head?_filter, f1]
    have ms : p.1 ++ [p.2] ∈ (rowsL t ot 6 nm).filter (fun r => decide (r.length = j + 1)) := by
      rw [key j j6]
      exact List.mem_map_of_mem (f := fun p : Row => p.1 ++ [p.2]) (List.mem_filter.mpr ⟨mp, hp⟩)
    obtain ⟨ms1, ms2⟩ := List.mem_filter.mp ms
    simp only [decide_eq_true_eq] at ms2
    have sz : sizeOf' t nm ot = (j : Int) + 1 := by
      have up := m2 ((p.1 ++ [p.2]).length : Int) (List.mem_append.mpr (.inl (List.mem_map_of_mem (f := fun r : List Str => (r.length : Int)) ms1)))
      rw [ms2] at up
      have lo : (j : Int) + 1 ≤ sizeOf' t nm ot := by
        rcases List.mem_append.mp m1 with m | m
        · obtain ⟨r, hrm, e⟩ := List.mem_map.mp m
          have l := rows_len 6 nm r hrm
          have m : r ∈ (rowsL t ot 6 nm).filter (fun r' => decide (r'.length = (r.length - 1) + 1)) := by
            rw [List.mem_filter]
            exact ⟨hrm, by simp only [decide_eq_true_eq]; omega⟩
          rw [key (r.length - 1) (by omega)] at m
          obtain ⟨p', hp', _⟩ := List.mem_map.mp m
          have ge : j ≤ r.length - 1 := by
            by_cases d : j ≤ r.length - 1
            · exact d
            · have := List.find?_eq_none.mp (f2 (r.length - 1) (by omega) (by omega)) p' (List.mem_filter.mp hp').1
              exact absurd (List.mem_filter.mp hp').2 this
          unfold sizeOf'
          rw [← e]
          omega
        · simp only [List.mem_singleton] at m
          unfold sizeOf'
          rw [m]
          omega
      unfold sizeOf' at lo ⊢
      omega
    have e : someL t nm ot = ((prs t nm j).filter fun p => decide (p.2 = ot)).map fun p => p.1 ++ [p.2] := by
      rw [← key j j6]
      unfold someL
      apply List.filter_congr
      intro r _
      rw [sz]
      exact decide_eq_decide.mpr (by omega)
    rw [e, List.head?_map, hd]
end SK
end
section
set_option linter.all false
set_option maxRecDepth 100000
set_option autoImplicit false
namespace SK
open PySem DL SM
theorem need_tree0 : f_need_tree [.d (.int 0)] = .exc "BadTree" := by rfl
/-- what is no name of a tree drawn -/
def badName : DL.D → Prop
  | .non => True | .int _ => True
  | .str x => x ∉ names6 ∧ okStr x = true
  | _ => False
theorem e_need_name_bad {t : Tr} (h : WF t) (h6 : ∀ n ∈ t.names, n ∈ names6) {d : DL.D} (hd : badName d) : f_need_name [.d (encT t), .d d] = .exc "BadName" := by
  cases d <;> try exact hd.elim
  · (unfold f_need_name; apply DL.fn_ev; (focus (simp only [DL.wipeSl, DL.backSl, DL.gSet, DL.gTups, DL.gSets, DL.storeRv, List.set_cons_zero, List.set_cons_succ, List.getElem?_cons_zero, List.getElem?_cons_succ, DL.Slot.mine, DL.Slot.ofArg, Bool.false_eq_true, if_true, if_false, List.map_cons, List.map_nil, List.length_cons, List.length_nil, List.replicate, List.cons_append, List.nil_append, Nat.reduceSub, Nat.reduceAdd, DL.parSlot] <;> rfl)); (focus (unfold s_need_name; skip)))
    · apply s_ifT (sl1 := [.val (encT t), .val .non])
      · have := rt_or (v := (mtVal (mBin opNotIn (mVar 1) (mCall f_names_of (maCons (mVar 0) maNil))))) (t := (mtNot (mtVal (mUn (fun d => (isTy "str" d).map fun k => .dat (.bl k)) (mVar 1))))) (p := true) (q := true) (sl := [.val (encT t), .val .non]) (sl1 := [.val (encT t), .val .non]) (by exact ⟨rfl⟩) nofun
        exact this
      · (exists ())
    · rfl
  · rename_i i
    (unfold f_need_name; apply DL.fn_ev; (focus (simp only [DL.wipeSl, DL.backSl, DL.gSet, DL.gTups, DL.gSets, DL.storeRv, List.set_cons_zero, List.set_cons_succ, List.getElem?_cons_zero, List.getElem?_cons_succ, DL.Slot.mine, DL.Slot.ofArg, Bool.false_eq_true, if_true, if_false, List.map_cons, List.map_nil, List.length_cons, List.length_nil, List.replicate, List.cons_append, List.nil_append, Nat.reduceSub, Nat.reduceAdd, DL.parSlot] <;> rfl)); (focus (unfold s_need_name; skip)))
    · apply s_ifT (sl1 := [.val (encT t), .val (.int i)])
      · have := rt_or (v := (mtVal (mBin opNotIn (mVar 1) (mCall f_names_of (maCons (mVar 0) maNil))))) (t := (mtNot (mtVal (mUn (fun d => (isTy "str" d).map fun k => .dat (.bl k)) (mVar 1))))) (p := true) (q := true) (sl := [.val (encT t), .val (.int i)]) (sl1 := [.val (encT t), .val (.int i)]) (by exact ⟨rfl⟩) nofun
        exact this
      · (exists ())
    · rfl
  · rename_i x
    have hx : x ∉ t.names := fun m => hd.1 (h6 x m)
    have k : opNotIn (.str x) (.lst (t.sks.map fun s => .str s.name)) = some (.dat (.bl (!decide (x ∈ t.names)))) := by
      have := op_notIn eqT_str (l := t.names) hd.2 (fun y hy => h.okn hy) (by decide)
      simpa [List.map_map, Function.comp_def] using this
    (unfold f_need_name; apply DL.fn_ev; (focus (simp only [DL.wipeSl, DL.backSl, DL.gSet, DL.gTups, DL.gSets, DL.storeRv, List.set_cons_zero, List.set_cons_succ, List.getElem?_cons_zero, List.getElem?_cons_succ, DL.Slot.mine, DL.Slot.ofArg, Bool.false_eq_true, if_true, if_false, List.map_cons, List.map_nil, List.length_cons, List.length_nil, List.replicate, List.cons_append, List.nil_append, Nat.reduceSub, Nat.reduceAdd, DL.parSlot] <;> rfl)); (focus (unfold s_need_name; exists e_names_of h, k)))
    rw [decide_eq_false hx]; rfl
theorem e_chain_bad1 {t : Tr} (h : WF t) (h6 : ∀ n ∈ t.names, n ∈ names6) {d e : DL.D} (hd : badName d) : f_chain [.d (encT t), .d d, .d e] = .exc "BadName" := by
  (unfold f_chain; apply DL.fn_ev; (focus (simp only [DL.wipeSl, DL.backSl, DL.gSet, DL.gTups, DL.gSets, DL.storeRv, List.set_cons_zero, List.set_cons_succ, List.getElem?_cons_zero, List.getElem?_cons_succ, DL.Slot.mine, DL.Slot.ofArg, Bool.false_eq_true, if_true, if_false, List.map_cons, List.map_nil, List.length_cons, List.length_nil, List.replicate, List.cons_append, List.nil_append, Nat.reduceSub, Nat.reduceAdd, DL.parSlot] <;> rfl)); (focus (unfold s_chain; skip)))
  · apply q_expr
    focus (exists e_need_tree h)
    apply s_seqX
    apply s_exprX
    apply x_call
    focus (exists ())
    focus (exists ())
    exact e_need_name_bad h h6 hd
  · rfl
theorem e_chain_bad2 {t : Tr} (h : WF t) (h6 : ∀ n ∈ t.names, n ∈ names6) {n : Str} (hn : n ∈ t.names) {d : DL.D} (hd : badName d) : f_chain [.d (encT t), .d (.str n), .d d] = .exc "BadName" := by
  (unfold f_chain; apply DL.fn_ev; (focus (simp only [DL.wipeSl, DL.backSl, DL.gSet, DL.gTups, DL.gSets, DL.storeRv, List.set_cons_zero, List.set_cons_succ, List.getElem?_cons_zero, List.getElem?_cons_succ, DL.Slot.mine, DL.Slot.ofArg, Bool.false_eq_true, if_true, if_false, List.map_cons, List.map_nil, List.length_cons, List.length_nil, List.replicate, List.cons_append, List.nil_append, Nat.reduceSub, Nat.reduceAdd, DL.parSlot] <;> rfl)); (focus (unfold s_chain; skip)))
  · apply q_expr
    focus (exists e_need_tree h)
    apply q_expr
    focus (exists e_need_name h hn)
    apply s_seqX
    apply s_exprX
    apply x_call
    focus (exists ())
    focus (exists ())
    exact e_need_name_bad h h6 hd
  · rfl
theorem e_wanting_bad {t : Tr} (h : WF t) (h6 : ∀ n ∈ t.names, n ∈ names6) {d : DL.D} (hd : badName d) : f_wanting [.d (encT t), .d d] = .exc "BadName" := by
  (unfold f_wanting; apply DL.fn_ev; (focus (simp only [DL.wipeSl, DL.backSl, DL.gSet, DL.gTups, DL.gSets, DL.storeRv, List.set_cons_zero, List.set_cons_succ, List.getElem?_cons_zero, List.getElem?_cons_succ, DL.Slot.mine, DL.Slot.ofArg, Bool.false_eq_true, if_true, if_false, List.map_cons, List.map_nil, List.length_cons, List.length_nil, List.replicate, List.cons_append, List.nil_append, Nat.reduceSub, Nat.reduceAdd, DL.parSlot] <;> rfl)); (focus (unfold s_wanting; skip)))
  · apply q_expr
    focus (exists e_need_tree h)
    apply s_seqX
    apply s_exprX
    apply x_call
    focus (exists ())
    focus (exists ())
    exact e_need_name_bad h h6 hd
  · rfl
theorem e_chain0 {d e : DL.D} : f_chain [.d (.int 0), .d d, .d e] = .exc "BadTree" := by
  (unfold f_chain; apply DL.fn_ev; (focus (simp only [DL.wipeSl, DL.backSl, DL.gSet, DL.gTups, DL.gSets, DL.storeRv, List.set_cons_zero, List.set_cons_succ, List.getElem?_cons_zero, List.getElem?_cons_succ, DL.Slot.mine, DL.Slot.ofArg, Bool.false_eq_true, if_true, if_false, List.map_cons, List.map_nil, List.length_cons, List.length_nil, List.replicate, List.cons_append, List.nil_append, Nat.reduceSub, Nat.reduceAdd, DL.parSlot] <;> rfl)); (focus (unfold s_chain; skip)))
  · apply s_seqX
    apply s_exprX
    apply x_call
    focus (exists ())
    focus (exists ())
    exact need_tree0
  · rfl
theorem e_law_names {t : Tr} (h : WF t) : f__law_names [.d (encT t)] = .ret (.lst (t.names.map DL.D.str)) true := by
  (unfold f__law_names; apply DL.fn_ev; (focus (simp only [DL.wipeSl, DL.backSl, DL.gSet, DL.gTups, DL.gSets, DL.storeRv, List.set_cons_zero, List.set_cons_succ, List.getElem?_cons_zero, List.getElem?_cons_succ, DL.Slot.mine, DL.Slot.ofArg, Bool.false_eq_true, if_true, if_false, List.map_cons, List.map_nil, List.length_cons, List.length_nil, List.replicate, List.cons_append, List.nil_append, Nat.reduceSub, Nat.reduceAdd, DL.parSlot] <;> rfl)); (focus (unfold s__law_names; exists h.size)))
  simp only [List.map_map]; rfl
abbrev encRow (r : List Str) : DL.D := .lst (r.map DL.D.str)
abbrev wantsD (t : Tr) : DL.D := dOf t.names fun n => .lst ((t.succ n).map DL.D.str)
theorem rows_bound {t : Tr} (h : WF t) {ot : Str} : ∀ (k : Nat) (nm : Str), (rowsL t ot k nm).length ≤ 6 ^ k
  | 0, nm => by unfold rowsL; split <;> simp
  | k + 1, nm => by
    unfold rowsL
    split
    · simp only [List.length_singleton]; exact Nat.one_le_pow _ _ (by decide)
    · have hs : (t.succ nm).length ≤ 6 := by
        unfold Tr.succ
        cases e : t.sk? nm with
        | none => simp
        | some s => simpa using h.wlen (List.mem_of_find?_eq_some e)
      have : ∀ l : List Str, (l.flatMap fun w => (rowsL t ot k w).map (nm :: ·)).length ≤ l.length * 6 ^ k := fun l => by
        induction l with
        | nil => simp
        | cons a r ih =>
          have := rows_bound h (ot := ot) k a
          rw [List.flatMap_cons, List.length_append, List.length_map, List.length_cons, Nat.succ_mul]
          omega
      refine Nat.le_trans (this _) ?_
      rw [Nat.pow_succ, Nat.mul_comm (6 ^ k)]
      exact Nat.mul_le_mul_right _ hs
theorem e_rows {t : Tr} (h : WF t) {ot : Str} (ho : ot ∈ t.names) : ∀ (n k : Nat), k < n → k ≤ 6 → ∀ nm ∈ t.names, f__law_rows n [.d (wantsD t), .d (.str nm), .d (.str ot), .d (.int (k : Nat))] = .ret (.lst ((rowsL t ot k nm).map encRow)) true
  | 0, _, h, _, _, _ => by omega
  | n + 1, k, hk, h6, nm, hn => by
    have k1 : opEq (.str nm) (.str ot) = some (.dat (.bl (decide (nm = ot)))) := op_eqS (h.okn hn) (h.okn ho)
    by_cases c : nm = ot
    · have e : rowsL t ot k nm = [[nm]] := by cases k <;> (unfold rowsL; rw [if_pos c])
      have k2 : opEq (.str nm) (.str ot) = some (.dat (.bl true)) := by rw [k1, decide_eq_true c]
      rw [e]
      show runFn 7 (s__law_rows (f__law_rows n)) _ = _
      apply fn_ev
      focus (simp only [DL.wipeSl, DL.backSl, DL.gSet, DL.gTups, DL.gSets, DL.storeRv, List.set_cons_zero, List.set_cons_succ, List.getElem?_cons_zero, List.getElem?_cons_succ, DL.Slot.mine, DL.Slot.ofArg, Bool.false_eq_true, if_true, if_false, List.map_cons, List.map_nil, List.length_cons, List.length_nil, List.replicate, List.cons_append, List.nil_append, Nat.reduceSub, Nat.reduceAdd, DL.parSlot] <;> rfl)
      · unfold s__law_rows
        apply s_seqR
        apply s_ifT
        focus (exists k2)
        focus (exists ())
      · rfl
    · have k2 : opEq (.str nm) (.str ot) = some (.dat (.bl false)) := by rw [k1, decide_eq_false c]
      have k5 : opIx (wantsD t) (.str nm) = some (.dat (.lst ((t.succ nm).map DL.D.str))) := op_ixD hn
      cases k with
      | zero =>
        have e : rowsL t ot 0 nm = [] := by unfold rowsL; rw [if_neg c]
        rw [e]
        show runFn 7 (s__law_rows (f__law_rows n)) _ = _
        apply fn_ev
        focus (simp only [DL.wipeSl, DL.backSl, DL.gSet, DL.gTups, DL.gSets, DL.storeRv, List.set_cons_zero, List.set_cons_succ, List.getElem?_cons_zero, List.getElem?_cons_succ, DL.Slot.mine, DL.Slot.ofArg, Bool.false_eq_true, if_true, if_false, List.map_cons, List.map_nil, List.length_cons, List.length_nil, List.replicate, List.cons_append, List.nil_append, Nat.reduceSub, Nat.reduceAdd, DL.parSlot] <;> rfl)
        · unfold s__law_rows
          apply s_seq
          focus
            apply s_ifF
            focus (exists k2)
            focus (exists ())
          apply q_set
          focus (exists ())
          apply s_seq
          focus
            apply s_for
            focus
              apply ri_seq
              focus
                apply r_ifF
                focus (exists ())
                focus (exists ())
              focus (exists ())
              exact (rfl : itemsOf (.lst []) = some [])
            focus (exists ())
            exact rfl
          focus (exists ())
        · rfl
      | succ k =>
        have e : rowsL t ot (k + 1) nm = (t.succ nm).flatMap fun w => (rowsL t ot k w).map (nm :: ·) := by rw [rowsL, if_neg c]
        have hs : ∀ w ∈ t.succ nm, w ∈ t.names := fun w hw => by
          unfold Tr.succ at hw
          cases e : t.sk? nm with
          | none => rw [e] at hw; cases hw
          | some s =>
            rw [e] at hw
            obtain ⟨x, hx, rfl⟩ := List.mem_map.mp hw
            exact h.wmem (List.mem_of_find?_eq_some e) hx
        have hl : (t.succ nm).length ≤ 6 := by
          unfold Tr.succ
          cases e : t.sk? nm with
          | none => simp
          | some s => simpa using h.wlen (List.mem_of_find?_eq_some e)
        have ks : opSub (.int ((k + 1 : Nat) : Int)) (.int 1) = some (.dat (.int (k : Nat))) := by
          rw [op_subI]; congr 3; omega
        have W := for_fold (dead := [5]) (g := gSet 5) (b := b__law_rows_1 (f__law_rows n)) (enc := DL.D.str) (S := fun a : List (List Str) => [.val (wantsD t), .val (.str nm), .val (.str ot), .val (.int ((k + 1 : Nat) : Int)), .own (.lst (a.map encRow)), .no, .no]) (step := fun a w => a ++ (rowsL t ot k w).map (nm :: ·)) (fun i a => a.length ≤ i * 6 ^ k) (t.succ nm) 0 [] (by simp) ?_
        · rw [e]
          have ef : ∀ (l : List Str) (a : List (List Str)), l.foldl (fun a w => a ++ (rowsL t ot k w).map (nm :: ·)) a = a ++ l.flatMap fun w => (rowsL t ot k w).map (nm :: ·) := fun l => by
            induction l with
            | nil => simp
            | cons x r ih => intro a; rw [List.foldl_cons, ih, List.flatMap_cons, List.append_assoc]
          rw [ef] at W
          show runFn 7 (s__law_rows (f__law_rows n)) _ = _
          apply fn_ev
          focus (simp only [DL.wipeSl, DL.backSl, DL.gSet, DL.gTups, DL.gSets, DL.storeRv, List.set_cons_zero, List.set_cons_succ, List.getElem?_cons_zero, List.getElem?_cons_succ, DL.Slot.mine, DL.Slot.ofArg, Bool.false_eq_true, if_true, if_false, List.map_cons, List.map_nil, List.length_cons, List.length_nil, List.replicate, List.cons_append, List.nil_append, Nat.reduceSub, Nat.reduceAdd, DL.parSlot] <;> rfl)
          · unfold s__law_rows
            apply s_seq
            focus
              apply s_ifF
              focus (exists k2)
              focus (exists ())
            apply q_set
            focus (exists ())
            apply s_seq
            focus
              apply s_for
              focus
                apply ri_seq
                focus
                  apply r_ifT
                  focus
                    apply rt_val (p := true)
                    focus (exists ())
                    have : (0 : Int) < ((k + 1 : Nat) : Int) := by omega
                    rw [decide_eq_true this]
                    rfl
                  focus (exists k5)
                focus (exists ())
                focus (exists ())
              focus (exists ())
              exact W.1
            focus (exists ())
          · rfl
        · intro i w a hw p
          have hw := hs w (List.mem_of_getElem? hw)
          have hi : i < (t.succ nm).length := (List.getElem?_eq_some_iff.mp ‹_›).1
          have b := rows_bound h (ot := ot) k w
          have b6 : 6 ^ k ≤ 6 ^ 6 := Nat.pow_le_pow_right (by decide) (by omega)
          have b7 : (0 + i) * 6 ^ k ≤ 6 * 6 ^ k := Nat.mul_le_mul_right _ (by omega)
          have rc := e_rows h ho n k (by omega) (by omega) w hw
          refine ⟨?_, ?_⟩
          · have ka : ∀ r : List Str, r ∈ rowsL t ot k w → opAdd (.lst [.str nm]) (encRow r) = some (.new (encRow (nm :: r))) := fun r hr => by
              have := rows_len k w r hr
              rw [op_addL (by simp only [List.length_cons, List.length_nil, List.length_map, sizeL]; omega)]
              rfl
            have z : (rowsL t ot k w).length ≤ sizeL := Nat.le_trans b (Nat.le_trans b6 (by decide))
            have ke : mmExtend (.lst (a.map encRow)) [.lst ((rowsL t ot k w).map fun r => encRow (nm :: r))] = some (.lst ((a ++ (rowsL t ot k w).map (nm :: ·)).map encRow)) := by
              rw [mm_ext (by simp only [List.length_map, sizeL]; omega), List.map_append, List.map_map]
              rfl
            apply turn_nx
            focus (exists ())
            focus (exists rc, ks, ka _ ‹_›, z, ke)
            focus (exists ())
          · simp only [List.length_append, List.length_map]
            have : (0 + i + 1) * 6 ^ k = (0 + i) * 6 ^ k + 6 ^ k := by rw [Nat.add_mul, Nat.one_mul]
            omega
end SK
end
section
set_option linter.all false
set_option maxRecDepth 100000
set_option autoImplicit false
set_option maxHeartbeats 2000000
/-! what goals tell -/
namespace SK
open PySem DL SM
def Same (t : Tr) (L M : Lv) : Prop := ∀ n ∈ t.names, L n = M n
theorem Same.of {t : Tr} {L M : Lv} (a : Le t L M) (b : Le t M L) : Same t L M := fun n hn => Int.le_antisymm (a n hn) (b n hn)
theorem Same.row {t : Tr} {L M : Lv} (a : Same t L M) : rowD t L = rowD t M := by
  unfold rowD
  congr 1
  exact List.map_congr_left fun s hs => by rw [a _ (List.mem_map_of_mem hs)]
theorem Same.clash {t : Tr} (h : WF t) {L M : Lv} (a : Same t L M) : clashL t L = clashL t M := by
  unfold clashL
  exact List.filter_congr fun l hl => by rw [a _ (h.lock l hl).1, a _ (h.lock l hl).2.1]
theorem Same.cost {t : Tr} {L M : Lv} (a : Same t L M) : costI t L = costI t M := by
  unfold costI
  congr 1
  exact List.map_congr_left fun s hs => by rw [a _ (List.mem_map_of_mem hs)]
theorem goal_out {n : Str} : ∀ (gs : List (Str × Int)) (L : Lv), n ∉ gs.map (·.1) → goalL gs L n = L n
  | [], _, _ => rfl
  | g :: gs, L, h => by
    simp only [List.map_cons, List.mem_cons, not_or] at h
    show goalL gs (upd L g.1 g.2) n = _
    rw [goal_out gs _ h.2]
    unfold upd
    rw [if_neg h.1]
theorem goal_in {M : Lv} {n : Str} : ∀ (gs : List (Str × Int)) (L : Lv), (∀ g ∈ gs, g.2 = M g.1) → n ∈ gs.map (·.1) → goalL gs L n = M n
  | [], _, _, h => nomatch h
  | g :: gs, L, hM, h => by
    show goalL gs (upd L g.1 g.2) n = _
    by_cases c : n ∈ gs.map (·.1)
    · exact goal_in gs _ (fun x m => hM x (.tail _ m)) c
    · rw [goal_out gs _ c]
      simp only [List.map_cons, List.mem_cons] at h
      rcases h with e | m
      · unfold upd
        rw [if_pos e, hM g (List.mem_cons_self ..), e]
      · exact absurd m c
/-- the goals that levels are -/
abbrev asGoal (L : Lv) (s : Sk) : Str × Int := (s.name, L s.name)
abbrev goalsOf (t : Tr) (L : Lv) : List (Str × Int) := (t.sks.filter fun s => decide (0 < L s.name)).map (asGoal L)
theorem sub_ok {t : Tr} (h : WF t) {L : Lv} (b : Le t L t.mostOf) {ss : List Sk} (hs : ss.Sublist t.sks) (hp : ∀ s ∈ ss, 0 < L s.name) : GoalsOk t (ss.map (asGoal L)) := by
  refine ⟨fun g hg => ?_, ?_⟩
  · obtain ⟨s, m, rfl⟩ := List.mem_map.mp hg
    have := hp s m
    exact ⟨h.mem (hs.mem m), by show (1 : Int) ≤ L s.name; omega, b _ (h.mem (hs.mem m))⟩
  · rw [List.map_map]
    exact h.nd.sublist (hs.map _)
theorem goal_lv {L : Lv} {ss : List Sk} {n : Str} (h : n ∈ ss.map (·.name)) (M : Lv) : goalL (ss.map (asGoal L)) M n = L n :=
  goal_in (M := L) _ _ (fun g hg => by obtain ⟨s, _, rfl⟩ := List.mem_map.mp hg; rfl) (by rw [List.map_map]; exact h)
theorem goal_lv0 {L : Lv} {ss : List Sk} {n : Str} (h : n ∉ ss.map (·.name)) (M : Lv) : goalL (ss.map (asGoal L)) M n = M n :=
  goal_out _ _ (by rw [List.map_map]; exact h)
theorem goals_same {t : Tr} (h : WF t) {L : Lv} (b : Build t L) : Same t (goalL (goalsOf t L) zeroL) L := fun n hn => by
  by_cases c : n ∈ (t.sks.filter fun s => decide (0 < L s.name)).map (·.name)
  · exact goal_lv c _
  · rw [goal_lv0 c]
    obtain ⟨s, hs, rfl⟩ := List.mem_map.mp hn
    have c2 : ¬ 0 < L s.name := fun p => c (List.mem_map_of_mem (f := Sk.name) (List.mem_filter.mpr ⟨hs, decide_eq_true p⟩))
    have := b.nn _ hn
    show (0 : Int) = _
    omega
theorem Grown.same {t : Tr} {A L L' : Lv} (a : Same t A L) (c : Closed t L) (g : Grown t A L') : Same t L' L :=
  Same.of (g.min L c fun n hn => Int.le_of_eq (a n hn)) fun n hn => by rw [← a n hn]; exact g.le n hn
theorem goals_ok {t : Tr} (h : WF t) {L : Lv} (b : Build t L) : GoalsOk t (goalsOf t L) := sub_ok h b.le List.filter_sublist fun s hs => of_decide_eq_true (List.mem_filter.mp hs).2
/-- what is told of a build's own goals -/
theorem own_goals {t : Tr} (h : WF t) {L : Lv} (b : Build t L) : f_least [.d (encT t), .d (.lst ((goalsOf t L).map encW))] = .ret (rowD t L) false ∧ f_price [.d (encT t), .d (.lst ((goalsOf t L).map encW))] = .ret (.int (costI t L)) false ∧ f_barred_by [.d (encT t), .d (.lst ((goalsOf t L).map encW))] = .ret (.lst []) true := by
  have g := goals_ok h b
  obtain ⟨L', e, q⟩ := e_goal_levels h g.ok
  have s := Grown.same (goals_same h b) b.cl q
  have c : clashL t L' = [] := by rw [s.clash h]; exact clash_nil.mpr b.nc
  have e1 := e_least h g e
  have e2 := e_price h g e
  have e3 := e_barred h g e
  unfold leastD at e1
  rw [if_pos c, s.row] at e1
  rw [if_pos c, s.cost] at e2
  rw [c] at e3
  exact ⟨e1, e2, e3⟩
theorem no_goals {t : Tr} (h : WF t) : f_least [.d (encT t), .d (.lst [])] = .ret (rowD t zeroL) false ∧ f_price [.d (encT t), .d (.lst [])] = .ret (.int 0) false := by
  have g : GoalsOk t [] := ⟨nofun, List.nodup_nil⟩
  obtain ⟨L', e, q⟩ := e_goal_levels h g.ok
  have b := Build.zero h
  have s : Same t L' zeroL := Grown.same (fun _ _ => rfl) b.cl q
  have c : clashL t L' = [] := by rw [s.clash h]; exact clash_nil.mpr b.nc
  have e1 := e_least h g e
  have e2 := e_price h g e
  unfold leastD at e1
  rw [if_pos c, s.row] at e1
  rw [if_pos c, s.cost] at e2
  have z : costI t zeroL = 0 := by
    unfold costI
    have : ∀ l : List Sk, (l.map fun s => zeroL s.name * s.cost).sum = 0 := fun l => by
      induction l with
      | nil => rfl
      | cons a r ih => simp only [List.map_cons, List.sum_cons, ih]; simp [zeroL]
    exact this _
  rw [z] at e2
  exact ⟨e1, e2⟩
theorem free_clash {t : Tr} {L : Lv} : clashL t.free L = [] := rfl
/-- the least build of goals in a tree without locks -/
theorem least_free {t : Tr} (h : WF t) {gs : List (Str × Int)} (g : GoalsOk t.free gs) : ∃ L, f_least [.d (encF t), .d (.lst (gs.map encW))] = .ret (rowD t L) false ∧ Grown t.free (goalL gs zeroL) L ∧ Build t.free L := by
  obtain ⟨L, e, q⟩ := e_goal_levels h.free g.ok
  have e1 := e_least h.free g e
  unfold leastD at e1
  rw [if_pos free_clash] at e1
  obtain ⟨l1, l2⟩ := goal_le g.ok zeroL (zero_most h.free) fun _ => Int.le_refl _
  exact ⟨L, e1, q, ⟨fun n hn => Int.le_trans (l2 n) (q.le n hn), q.min _ (most_closed h.free) l1, nofun, q.cl⟩⟩
/-- two lists of goals, no name in both -/
theorem both_goals {t : Tr} (h : WF t) {A B : Lv} (hA : Le t A t.mostOf) (hB : Le t B t.mostOf) {p q : List Sk} (hp : p.Sublist t.sks) (hq : q.Sublist t.sks) (pp : ∀ s ∈ p, 0 < A s.name) (qp : ∀ s ∈ q, 0 < B s.name) (dj : ∀ s ∈ q, s.name ∉ p.map (·.name)) :
    ∃ L1 L2 L3, f_least [.d (encF t), .d (.lst ((p.map (asGoal A) ++ q.map (asGoal B)).map encW))] = .ret (rowD t L1) false ∧ f_least [.d (encF t), .d (.lst ((p.map (asGoal A)).map encW))] = .ret (rowD t L2) false ∧ f_least [.d (encF t), .d (.lst ((q.map (asGoal B)).map encW))] = .ret (rowD t L3) false ∧ Build t.free L2 ∧ Build t.free L3 ∧ rowD t L1 = rowD t (maxL L2 L3) := by
  have g2 : GoalsOk t.free (p.map (asGoal A)) := sub_ok h.free hA hp pp
  have g3 : GoalsOk t.free (q.map (asGoal B)) := sub_ok h.free hB hq qp
  have g1 : GoalsOk t.free (p.map (asGoal A) ++ q.map (asGoal B)) := by
    refine ⟨fun g hg => (List.mem_append.mp hg).elim (g2.ok g) (g3.ok g), ?_⟩
    rw [List.map_append, List.nodup_append]
    refine ⟨g2.nd, g3.nd, fun x hx y hy e => ?_⟩
    subst e
    rw [List.map_map] at hx hy
    obtain ⟨s, hs, rfl⟩ := List.mem_map.mp hy
    exact dj s hs hx
  obtain ⟨L1, e1, q1, b1⟩ := least_free h g1
  obtain ⟨L2, e2, q2, b2⟩ := least_free h g2
  obtain ⟨L3, e3, q3, b3⟩ := least_free h g3
  have ap : goalL (p.map (asGoal A) ++ q.map (asGoal B)) zeroL = goalL (q.map (asGoal B)) (goalL (p.map (asGoal A)) zeroL) := List.foldl_append ..
  refine ⟨L1, L2, L3, e1, e2, e3, b2, b3, ?_⟩
  rw [ap] at q1
  refine Same.row (Same.of (q1.min _ (b2.maxB h b3).cl fun n hn => ?_) fun n hn => ?_)
  · show _ ≤ max (L2 n) (L3 n)
    have r2 := q2.le n hn
    have r3 := q3.le n hn
    by_cases c : n ∈ q.map (·.name)
    · rw [goal_lv c] at r3 ⊢
      omega
    · rw [goal_lv0 c]
      omega
  · show max (L2 n) (L3 n) ≤ L1 n
    have r2 : L2 n ≤ L1 n := q2.min L1 b1.cl (fun m hm => by
      have r1 := q1.le m hm
      by_cases c : m ∈ q.map (·.name)
      · obtain ⟨s, hs, e⟩ := List.mem_map.mp c
        have c2 : m ∉ p.map (·.name) := e ▸ dj s hs
        rw [goal_lv0 c2]
        exact b1.nn m hm
      · rw [goal_lv0 c] at r1
        exact r1) n hn
    have r3 : L3 n ≤ L1 n := q3.min L1 b1.cl (fun m hm => by
      have r1 := q1.le m hm
      by_cases c : m ∈ q.map (·.name)
      · rw [goal_lv c] at r1 ⊢
        exact r1
      · rw [goal_lv0 c]
        exact b1.nn m hm) n hn
    omega
end SK
end
section
set_option linter.all false
set_option maxRecDepth 100000
set_option autoImplicit false
set_option maxHeartbeats 400000
namespace SK
open PySem DL SM LW
theorem s_unpL {is : List Nat} {e : ME} {sl sl1 sl2 sl3 : Sl} {r : Rv} {d : DL.D} (he : Ee e sl r sl1) (hf : frz r sl1 = some (d, sl2)) (hg : gLsts is d sl2 = some sl3) : Es (msUnpL is e) sl (.nx sl3) := by
  constructor
  unfold msUnpL; rw [he.out]; simp only [EOut.sbind, hf, hg]
theorem q_ifN {a b : MS} {t : MT} {sl sl1 : Sl} {o : SOut} (ht : Et t sl false sl1) (hb : Es b sl1 o) : Es (msSeq (msIf t a msNil) b) sl o := s_seq (s_ifF ht s_nil) hb
theorem et_notF {t : MT} {sl sl1 : Sl} (h : Et t sl true sl1) : Et (mtNot t) sl false sl1 := rt_not (p := true) h
theorem et_orF {t v : MT} {sl sl1 : Sl} (h : Et t sl false sl1) (h2 : Et v sl1 false sl1) : Et (mtOr t v) sl false sl1 := rt_or (p := false) (q := false) h fun _ => h2
abbrev namesD (t : Tr) : DL.D := .lst (t.sks.map fun s => .str s.name)
theorem law2 {t : Tr} (h : WF t) {L : Lv} (b : Build t L) {sc k m fr rows one oth thd : DL.D} (fl : Bool) :
    turn [7, 14] (gSet 7) b_law_2 (rowD t L) [.val sc, .val k, .val m, .val (encT t), .val fr, .val rows, flSlot fl (namesD t), .no, .no, .no, .no, .val one, .val oth, .val thd, .no, .no, .no, .no, .no] = .nx [.val sc, .val k, .val m, .val (encT t), .val fr, .val rows, .val (namesD t), .no, .no, .no, .no, .val one, .val oth, .val thd, .no, .no, .no, .no, .no] := by
  obtain ⟨o1, o2, o3⟩ := own_goals h b
  rw [List.map_map] at o1 o2 o3
  have o1 : f_least [.d (encT t), .d (.lst ((t.sks.filter fun s => decide (0 < L s.name)).map fun s => .tup [.str s.name, .int (L s.name)]))] = .ret (rowD t L) false := o1
  have o2 : f_price [.d (encT t), .d (.lst ((t.sks.filter fun s => decide (0 < L s.name)).map fun s => .tup [.str s.name, .int (L s.name)]))] = .ret (.int (costI t L)) false := o2
  have o3 : f_barred_by [.d (encT t), .d (.lst ((t.sks.filter fun s => decide (0 < L s.name)).map fun s => .tup [.str s.name, .int (L s.name)]))] = .ret (.lst []) true := o3
  have n1 := @row_ne t L
  have n2 : opNe (.int (costI t L)) (.int (costI t L)) = some (.dat (.bl false)) := by rw [op_neI]; simp
  have n3 : opNe (.lst []) (.lst []) = some (.dat (.bl false)) := rfl
  have c := e_law_cost h L
  cases fl
  · apply turn_ev
    focus (exists ())
    focus (exists w_zipLS, o1, o2, o3, n1, n2, n3, c, h.size)
    focus rfl
    focus (exists ())
  · apply turn_ev
    focus (exists ())
    focus (exists w_zipLS, o1, o2, o3, n1, n2, n3, c, h.size)
    focus rfl
    focus (exists ())
theorem builds3 {t : Tr} (h : WF t) (c : Int) : ∃ Lf : Nat → Lv, ∀ i : Nat, f__law_build [.d (encT t), .d (.int (drawnI c (30 + (i : Int))))] = .ret (rowD t (Lf i)) false ∧ Build t (Lf i) :=
  ⟨fun i => Classical.choose (e_law_build h (drawnI c (30 + (i : Int)))), fun i => Classical.choose_spec (e_law_build h (drawnI c (30 + (i : Int))))⟩
theorem law1 (ns : List Int) (hl : ns.length ≤ 63) (k : Nat) :
    turn [1, 2, 3, 4, 5, 6, 7, 8, 9, 10, 11, 12, 13, 14] (gSet 1) b_law_1 (.int (k : Nat)) [.val (.scr ns), .no, .no, .no, .no, .no, .no, .no, .no, .no, .no, .no, .no, .no, .no, .no, .no, .no, .no] = .nx [.val (.scr ns), .no, .no, .no, .no, .no, .no, .no, .no, .no, .no, .no, .no, .no, .no, .no, .no, .no, .no] := by
  obtain ⟨c, ec⟩ := e_cell ns k hl
  obtain ⟨t, et, h, h6, _⟩ := e_law_tree (drawnI c k / 64) 6 (by decide) (by decide)
  obtain ⟨Lf, eb⟩ := builds3 h (drawnI c k)
  have b := fun i => (eb i).2
  have eb := fun i => (eb i).1
  have kn : f__law_names [.d (encT t)] = .ret (namesD t) true := by
    have := e_law_names h
    rw [List.map_map] at this
    exact this
  have k64 : opFdiv (.int (drawnI c k)) (.int 64) = some (.dat (.int (drawnI c k / 64))) := op_fdiv (by decide) (by decide)
  have kr : rangeOf [.int 3] = some ((List.range 3).map fun i => .int (i : Nat)) := rfl
  have z3 : (List.range 3).length ≤ sizeL := by decide
  have e3 := e_three_right h (b 0) (b 1) (b 2)
  have ed := e_drawn c k
  generalize drawnI c k = m at *
  have W := for_inv (dead := [7, 14]) (g := gSet 7) (b := b_law_2) (enc := fun i : Nat => rowD t (Lf i)) (S := fun fl : Bool => [.val (.scr ns), .val (.int (k : Nat)), .val (.int m), .val (encT t), .val (encF t), .val (.lst ((List.range 3).map fun i => rowD t (Lf i))), flSlot fl (namesD t), .no, .no, .no, .no, .val (rowD t (Lf 0)), .val (rowD t (Lf 1)), .val (rowD t (Lf 2)), .no, .no, .no, .no, .no]) (fun n a => n = 0 ∨ a = false) (List.range 3) 0 true (.inl rfl) fun i x a hi p => ⟨false, law2 h (b x) a, .inr rfl⟩
  obtain ⟨fl, W, pf⟩ := W
  obtain rfl : fl = false := pf.resolve_left (by simp)
  have A := b 0
  have B := b 1
  generalize hA : Lf 0 = LA at *
  generalize hB : Lf 1 = LB at *
  generalize hP : (t.sks.filter fun s => decide (0 < LA s.name)).take 2 = P
  generalize hQ : (t.sks.filter fun s => decide (0 < LB s.name) && !decide (s.name ∈ P.map (·.name))).take 2 = Q
  have sP : P.Sublist t.sks := hP ▸ (List.take_sublist _ _).trans List.filter_sublist
  have sQ : Q.Sublist t.sks := hQ ▸ (List.take_sublist _ _).trans List.filter_sublist
  have mP : ∀ s ∈ P, 0 < LA s.name := fun s m => by
    rw [← hP] at m
    have := (List.mem_filter.mp (List.mem_of_mem_take m)).2
    simpa using this
  have mQ : ∀ s ∈ Q, 0 < LB s.name ∧ s.name ∉ P.map (·.name) := fun s m => by
    rw [← hQ] at m
    have := (List.mem_filter.mp (List.mem_of_mem_take m)).2
    simpa using this
  have zP : P.length ≤ sizeL := Nat.le_trans sP.length_le h.size
  have zQ : Q.length ≤ sizeL := Nat.le_trans sQ.length_le h.size
  have zPQ : P.length + Q.length ≤ sizeL := by
    have := sP.length_le
    have := sQ.length_le
    have := h.len
    simp only [sizeL]
    omega
  obtain ⟨L1, L2, L3, g1, g2, g3, b2, b3, e12⟩ := both_goals h A.le B.le sP sQ mP (fun s m => (mQ s m).1) (fun s m => (mQ s m).2)
  rw [e12] at g1
  rw [List.map_map] at g2 g3
  rw [List.map_append, List.map_map, List.map_map] at g1
  have g2 : f_least [.d (encF t), .d (.lst (P.map fun s => .tup [.str s.name, .int (LA s.name)]))] = .ret (rowD t L2) false := g2
  have g3 : f_least [.d (encF t), .d (.lst (Q.map fun s => .tup [.str s.name, .int (LB s.name)]))] = .ret (rowD t L3) false := g3
  have g1 : f_least [.d (encF t), .d (.lst ((P.map fun s => .tup [.str s.name, .int (LA s.name)]) ++ Q.map fun s => .tup [.str s.name, .int (LB s.name)]))] = .ret (rowD t (maxL L2 L3)) false := g1
  have kc1 : opCut none (some 2) (.lst ((t.sks.filter fun s => decide (0 < LA s.name)).map fun s => .tup [.str s.name, .int (LA s.name)])) = some (.new (.lst (P.map fun s => .tup [.str s.name, .int (LA s.name)]))) := by
    rw [cut_take (by decide), ← hP, List.map_take]; rfl
  have kc2 : opCut none (some 2) (.lst ((t.sks.filter fun s => decide (0 < LB s.name) && !decide (s.name ∈ P.map (·.name))).map fun s => .tup [.str s.name, .int (LB s.name)])) = some (.new (.lst (Q.map fun s => .tup [.str s.name, .int (LB s.name)]))) := by
    rw [cut_take (by decide), ← hQ, List.map_take]; rfl
  have ki : ∀ s ∈ t.sks, opNotIn (.str s.name) (.lst (P.map fun s => .str s.name)) = some (.dat (.bl (!decide (s.name ∈ P.map (·.name))))) := fun s hs => by
    have := op_notIn eqT_str (l := P.map (·.name)) (h.oks hs) (fun y hy => by
      obtain ⟨s', hs', rfl⟩ := List.mem_map.mp hy
      exact h.oks (sP.mem hs')) (by decide)
    rw [List.map_map] at this
    exact this
  have ka : opAdd (.lst (P.map fun s => .tup [.str s.name, .int (LA s.name)])) (.lst (Q.map fun s => .tup [.str s.name, .int (LB s.name)])) = some (.new (.lst ((P.map fun s => .tup [.str s.name, .int (LA s.name)]) ++ Q.map fun s => .tup [.str s.name, .int (LB s.name)]))) := op_addL (by simpa using zPQ)
  have j1 := e_joinedF h b2 b3
  have n1 := @row_ne t
  obtain ⟨o1, o2⟩ := no_goals h
  have n2 : opNe (.int 0) (.int 0) = some (.dat (.bl false)) := rfl
  have kz : opMul (.tup [.int 0]) (.int ((t.sks.map fun s => DL.D.str s.name).length : Nat)) = some (.dat (rowD t zeroL)) := by
    have := zero_tup h
    rw [List.length_map] at this ⊢
    exact this
  apply turn_nx
  focus (exists ())
  focus
    (exists ec, ed, e_drawn _ _, k64, et, kr, z3, eb _)
    apply s_seq
    focus
      apply s_unpL (sl3 := [.val (.scr ns), .val (.int (k : Nat)), .val (.int m), .val (encT t), .val (encF t), .val (.lst ((List.range 3).map fun i => rowD t (Lf i))), .no, .no, .no, .no, .no, .val (rowD t LA), .val (rowD t LB), .val (rowD t (Lf 2)), .no, .no, .no, .no, .no])
      focus (exists ())
      focus (exists ())
      focus
        rw [← hA, ← hB]
        rfl
    apply q_ifN
    focus
      apply et_notF
      focus (exists e3)
    apply q_set
    focus (exists kn)
    apply s_seq
    focus
      apply s_for
      focus (exists ())
      focus (exists ())
      exact W
    apply q_set
    focus (exists w_zipLS, h.size, kc1)
    apply q_set
    focus (exists zP)
    apply q_set
    focus (exists w_zipLS, h.size, ki _ ‹_›, kc2)
    apply q_ifN
    focus (exists ka, g1, g2, g3, j1, n1)
    apply s_ifF
    focus
      apply et_orF
      focus (exists o1, kz, n1)
      focus (exists o2, n2)
    focus (exists ())
  focus (exists ())
theorem law_holds (ns : List Int) (hl : ns.length ≤ 63) : f_law [.d (.scr ns)] = .ret (.bl true) false := by
  have k1 : opMin [.int 3, .int (ns.length : Nat)] = some (.dat (.int (if (ns.length : Int) < 3 then ns.length else 3))) := rfl
  have k2 : opMax [.int 1, .int (if (ns.length : Int) < 3 then ns.length else 3)] = some (.dat (.int (if (if (ns.length : Int) < 3 then (ns.length : Int) else 3) > 1 then (if (ns.length : Int) < 3 then (ns.length : Int) else 3) else 1))) := rfl
  generalize hj : (if (if (ns.length : Int) < 3 then (ns.length : Int) else 3) > 1 then (if (ns.length : Int) < 3 then (ns.length : Int) else 3) else 1) = j at k2
  have hj2 : 0 ≤ j ∧ j ≤ 3 := by rw [← hj]; split <;> split <;> omega
  have rg : rangeOf [.int j] = some ((List.range j.toNat).map fun i => .int (i : Nat)) := w_range (by omega)
  have kl : opLen [.scr ns] = some (.dat (.int (ns.length : Nat))) := rfl
  (unfold f_law; apply DL.fn_ev; (focus (simp only [DL.wipeSl, DL.backSl, DL.gSet, DL.gTups, DL.gSets, DL.storeRv, List.set_cons_zero, List.set_cons_succ, List.getElem?_cons_zero, List.getElem?_cons_succ, DL.Slot.mine, DL.Slot.ofArg, Bool.false_eq_true, if_true, if_false, List.map_cons, List.map_nil, List.length_cons, List.length_nil, List.replicate, List.cons_append, List.nil_append, Nat.reduceSub, Nat.reduceAdd, DL.parSlot] <;> rfl)); (focus (unfold s_law; skip)))
  · apply s_seq
    focus
      apply s_for
      focus (exists kl, k1, k2, rg)
      focus (exists ())
      exact for_same _ fun k _ => law1 ns hl k
    focus (exists ())
  · rfl
end SK
end
set_option maxRecDepth 100000 in
set_option maxHeartbeats 8000000 in
theorem PySem.Challenge.cw_skillwants_k42_whole_goals_together_holds : PySem.Challenge.rw_skillwants_k42_whole_goals_together.Holds := by
  exact holds_of fun ns h _ => SK.law_holds ns h
