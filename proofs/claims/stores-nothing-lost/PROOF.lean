import PyProof.Rows.All
import Wide.All
import OpenK.AllK
import Wide.FinOn
import HandS.ForMost
import HandS.IsInst
import HandS.SetFor
import HandS.Conv
import HandS.Codes
import PySem.Challenge.RW_ownroom_k03_stores_nothing_lost
set_option Elab.async false
set_option maxRecDepth 100000
set_option maxHeartbeats 4000000
/-! The plain law: owners of pages as a list of ints; no program here. -/
namespace Own
/-- what count tells of a page -/
def cnt (os : List Int) (k : Int) : Int := if 0 ≤ k ∧ k < (os.length : Int) then os.getD k.toNat 0 else 0
theorem cnt_nat {os : List Int} {k : Nat} (h : k < os.length) : cnt os (k : Int) = os.getD k 0 := by
  unfold cnt
  rw [if_pos ⟨by omega, by omega⟩, Int.toNat_natCast]
theorem cnt_pos {os : List Int} {k : Int} (h : cnt os k ≠ 0) : ∃ j : Nat, k = (j : Int) ∧ j < os.length ∧ cnt os k = os.getD j 0 := by
  unfold cnt at h ⊢
  by_cases hk : 0 ≤ k ∧ k < (os.length : Int)
  · exact ⟨k.toNat, by omega, by omega, by rw [if_pos hk]⟩
  · rw [if_neg hk] at h
    exact absurd rfl h
theorem getD_some {os : List Int} {k : Nat} (h : k < os.length) : os[k]? = some (os.getD k 0) := by
  rw [List.getD_eq_getElem?_getD, List.getElem?_eq_getElem h]
  rfl
theorem getD_mem {os : List Int} {k : Nat} (h : k < os.length) : os.getD k 0 ∈ os := List.mem_of_getElem? (getD_some h)
theorem getD_set {os : List Int} {j k : Nat} {v : Int} (hk : k < os.length) : (os.set j v).getD k 0 = if j = k then v else os.getD k 0 := by
  rw [List.getD_eq_getElem?_getD, List.getD_eq_getElem?_getD, List.getElem?_set]
  by_cases h : j = k
  · subst h
    rw [if_pos rfl, if_pos hk, if_pos rfl]
    rfl
  · rw [if_neg h, if_neg h]
/-- the taken pages, the free ones, rising -/
def taken (os : List Int) : List Nat := (List.range os.length).filter fun k => decide (0 < os.getD k 0)
def due (os : List Int) : List Nat := (List.range os.length).filter fun k => decide (¬ 0 < os.getD k 0)
theorem mem_taken {os : List Int} {k : Nat} : k ∈ taken os ↔ k < os.length ∧ 0 < os.getD k 0 := by
  unfold taken
  rw [List.mem_filter, List.mem_range, decide_eq_true_iff]
theorem mem_due {os : List Int} {k : Nat} : k ∈ due os ↔ k < os.length ∧ ¬ 0 < os.getD k 0 := by
  unfold due
  rw [List.mem_filter, List.mem_range, decide_eq_true_iff]
theorem taken_len (os : List Int) : (taken os).length ≤ os.length := by
  unfold taken
  exact Nat.le_trans (List.length_filter_le _ _) (by rw [List.length_range]; exact Nat.le_refl _)
theorem due_len (os : List Int) : (due os).length ≤ os.length := by
  unfold due
  exact Nat.le_trans (List.length_filter_le _ _) (by rw [List.length_range]; exact Nat.le_refl _)
theorem taken_cons (x : Int) (os : List Int) : taken (x :: os) = (if 0 < x then [0] else []) ++ (taken os).map Nat.succ := by
  unfold taken
  rw [List.length_cons, List.range_succ_eq_map, List.filter_cons, List.filter_map]
  have e2 : ((fun k => decide (0 < (x :: os).getD k 0)) ∘ Nat.succ) = fun k => decide (0 < os.getD k 0) := by
    funext k
    simp
  rw [e2]
  by_cases hp : 0 < x
  · simp [hp]
  · simp [hp]
theorem count_taken : ∀ (os : List Int), (∀ x ∈ os, 0 ≤ x) → os.count 0 + (taken os).length = os.length
  | [], _ => rfl
  | x :: os, h => by
    have ih := count_taken os fun y hy => h y (List.mem_cons_of_mem _ hy)
    have hx := h x List.mem_cons_self
    rw [taken_cons, List.length_append, List.length_map, List.count_cons, List.length_cons]
    by_cases hp : 0 < x
    · have h0 : (x == 0) = false := beq_eq_false_iff_ne.mpr (by omega)
      rw [if_pos hp, h0]
      simp
      omega
    · have h0 : x = 0 := by omega
      subst h0
      simp
      omega
/-- os' is os but v at the pages ks -/
structure Chg (os os' : List Int) (ks : List Nat) (v : Int) : Prop where
  len : os'.length = os.length
  at_ : ∀ k, k < os.length → os'.getD k 0 = if k ∈ ks then v else os.getD k 0
theorem Chg.nil {os : List Int} {v : Int} : Chg os os [] v := ⟨rfl, fun k _ => by rw [if_neg (by simp)]⟩
theorem take_one {L : List Nat} {i j : Nat} (h : L[i]? = some j) : L.take (i + 1) = L.take i ++ [j] := by
  rw [List.take_add_one, h]
  rfl
theorem Chg.step {os os' : List Int} {L : List Nat} {i j : Nat} {v : Int} (c : Chg os os' (L.take i) v) (h : L[i]? = some j) : Chg os (os'.set j v) (L.take (i + 1)) v := by
  refine ⟨by rw [List.length_set]; exact c.len, fun k hk => ?_⟩
  rw [getD_set (by rw [c.len]; exact hk), take_one h, c.at_ k hk]
  by_cases hj : j = k
  · subst hj
    rw [if_pos rfl, if_pos (by simp)]
  · rw [if_neg hj]
    by_cases hm : k ∈ L.take i
    · rw [if_pos hm, if_pos (List.mem_append_left _ hm)]
    · rw [if_neg hm, if_neg]
      intro q
      rcases List.mem_append.mp q with q | q
      · exact hm q
      · exact hj (List.mem_singleton.mp q).symm
theorem rising {L : List Nat} (p : L.Pairwise (· < ·)) {a b x y : Nat} (hab : a < b) (ha : L[a]? = some x) (hb : L[b]? = some y) : x < y := by
  obtain ⟨h1, e1⟩ := List.getElem?_eq_some_iff.mp ha
  obtain ⟨h2, e2⟩ := List.getElem?_eq_some_iff.mp hb
  rw [← e1, ← e2]
  exact List.pairwise_iff_getElem.mp p a b h1 h2 hab
theorem due_rising (os : List Int) : (due os).Pairwise (· < ·) := List.Pairwise.filter _ List.pairwise_lt_range
theorem taken_rising (os : List Int) : (taken os).Pairwise (· < ·) := List.Pairwise.filter _ List.pairwise_lt_range
theorem not_before {L : List Nat} (p : L.Pairwise (· < ·)) {i j : Nat} (h : L[i]? = some j) : j ∉ L.take i := by
  intro q
  obtain ⟨a, ha⟩ := List.mem_iff_getElem?.mp q
  have hai : a < i := by
    obtain ⟨h1, _⟩ := List.getElem?_eq_some_iff.mp ha
    have := List.length_take_le i L
    omega
  rw [List.getElem?_take_of_lt hai] at ha
  exact absurd (rising p hai ha h) (Nat.lt_irrefl _)
/-- behind i takes of the free pages the next one is the first free one -/
theorem first_due {os os' : List Int} {i j : Nat} (hn : ∀ x ∈ os, 0 ≤ x) (c : Chg os os' ((due os).take i) 1) (h : (due os)[i]? = some j) :
    os'[j]? = some 0 ∧ ∀ m, m < j → os'[m]? ≠ some 0 := by
  have hj := mem_due.mp (List.mem_of_getElem? h)
  have h0 : os.getD j 0 = 0 := by
    have := hn _ (getD_mem hj.1)
    omega
  refine ⟨?_, fun m hm q => ?_⟩
  · rw [getD_some (by rw [c.len]; exact hj.1), c.at_ j hj.1, if_neg (not_before (due_rising os) h), h0]
  · have hml : m < os.length := by omega
    rw [getD_some (by rw [c.len]; exact hml), c.at_ m hml] at q
    by_cases hmt : m ∈ (due os).take i
    · rw [if_pos hmt] at q
      exact absurd (Option.some.inj q) (by decide)
    · rw [if_neg hmt] at q
      have q := Option.some.inj q
      have hd : m ∈ due os := mem_due.mpr ⟨hml, by omega⟩
      obtain ⟨a, ha⟩ := List.mem_iff_getElem?.mp hd
      rcases Nat.lt_trichotomy a i with l | l | l
      · exact hmt (List.mem_iff_getElem?.mpr ⟨a, by rw [List.getElem?_take_of_lt l]; exact ha⟩)
      · subst l
        rw [h] at ha
        have := Option.some.inj ha
        omega
      · have := rising (due_rising os) l h ha
        omega
theorem full {os os' : List Int} (c : Chg os os' (due os) 1) : (0 : Int) ∉ os' := by
  intro q
  obtain ⟨k, hk⟩ := List.mem_iff_getElem?.mp q
  have hl : k < os.length := by
    obtain ⟨h1, _⟩ := List.getElem?_eq_some_iff.mp hk
    rw [c.len] at h1
    exact h1
  rw [getD_some (by rw [c.len]; exact hl), c.at_ k hl] at hk
  have hk := Option.some.inj hk
  by_cases hm : k ∈ due os
  · rw [if_pos hm] at hk
    exact absurd hk (by decide)
  · rw [if_neg hm] at hk
    exact hm (mem_due.mpr ⟨hl, by omega⟩)
theorem emptied {os os' : List Int} (hn : ∀ x ∈ os, 0 ≤ x) (c : Chg os os' (taken os) 0) : os' = List.replicate os.length 0 := by
  refine List.ext_getElem? fun k => ?_
  by_cases hk : k < os.length
  · rw [getD_some (by rw [c.len]; exact hk), c.at_ k hk, List.getElem?_replicate, if_pos hk]
    by_cases hm : k ∈ taken os
    · rw [if_pos hm]
    · rw [if_neg hm]
      have h1 := hn _ (getD_mem hk)
      have h2 : ¬ 0 < os.getD k 0 := fun z => hm (mem_taken.mpr ⟨hk, z⟩)
      exact congrArg some (by omega)
  · rw [List.getElem?_eq_none (by rw [c.len]; omega), List.getElem?_eq_none (by rw [List.length_replicate]; omega)]
theorem due_free (n : Nat) : due (List.replicate n 0) = List.range n := by
  unfold due
  rw [List.length_replicate, List.filter_eq_self]
  intro k hk
  have hk := List.mem_range.mp hk
  rw [List.getD_eq_getElem?_getD, List.getElem?_replicate, if_pos hk]
  rfl
theorem count_free (n : Nat) : (List.replicate n (0 : Int)).count 0 = n := by simp
/-- all owners within 0 .. B -/
def Within (os : List Int) (B : Int) : Prop := ∀ x ∈ os, 0 ≤ x ∧ x ≤ B
theorem Within.mono {os : List Int} {A B : Int} (h : Within os A) (l : A ≤ B) : Within os B := fun x hx => ⟨(h x hx).1, by have := (h x hx).2; omega⟩
theorem Within.set {os : List Int} {B v : Int} {j : Nat} (h : Within os B) (h0 : 0 ≤ v) (h1 : v ≤ B) : Within (os.set j v) B := fun x hx => by
  rcases List.mem_or_eq_of_mem_set hx with q | q
  · exact h x q
  · subst q
    exact ⟨h0, h1⟩
theorem Within.nn {os : List Int} {B : Int} (h : Within os B) : ∀ x ∈ os, 0 ≤ x := fun x hx => (h x hx).1
theorem within_free (n : Nat) : Within (List.replicate n 0) 0 := fun x hx => by
  have := List.eq_of_mem_replicate hx
  subst this
  exact ⟨Int.le_refl _, Int.le_refl _⟩
theorem Chg.within {os os' : List Int} {ks : List Nat} {v B : Int} (c : Chg os os' ks v) (h : Within os B) (h0 : 0 ≤ v) (h1 : v ≤ B) : Within os' B := fun x hx => by
  obtain ⟨k, hk⟩ := List.mem_iff_getElem?.mp hx
  have hl : k < os.length := by
    obtain ⟨h1, _⟩ := List.getElem?_eq_some_iff.mp hk
    rw [c.len] at h1
    exact h1
  rw [getD_some (by rw [c.len]; exact hl), c.at_ k hl] at hk
  have hk := Option.some.inj hk
  by_cases hm : k ∈ ks
  · rw [if_pos hm] at hk
    omega
  · rw [if_neg hm] at hk
    subst hk
    exact h _ (getD_mem hl)
/-- one turn more of a filter over a range -/
theorem filter_turn (p : Nat → Bool) (i : Nat) : (List.range (i + 1)).filter p = (List.range i).filter p ++ (if p i = true then [i] else []) := by
  rw [List.range_succ, List.filter_append, List.filter_cons]
  rfl
end Own

/-! The walk of the class Store. -/
namespace Own
open PySem L2
/-! ### the text by places -/
def top (i : Nat) : Stmt := PySem.Challenge.pw_ownroom_k03_stores_nothing_lost.main.body.getD i (.Pass ⟨0, 0, 0, 0⟩)
abbrev sInit : Stmt := inClass (top 6) 0
abbrev sTake : Stmt := inClass (top 6) 1
abbrev sLook : Stmt := inClass (top 6) 2
abbrev sMore : Stmt := inClass (top 6) 3
abbrev sLess : Stmt := inClass (top 6) 4
abbrev sCount : Stmt := inClass (top 6) 5
abbrev sFree : Stmt := inClass (top 6) 8
abbrev sWhole : Stmt := top 8
abbrev sCell : Stmt := top 9
abbrev sMix : Stmt := top 10
abbrev sNumbers : Stmt := top 11
abbrev sDeeds : Stmt := top 12
abbrev sTaken : Stmt := top 13
abbrev sLoosed : Stmt := top 14
abbrev sLaw : Stmt := top 15
/-! ### the store's attributes -/
theorem oc_ : ¬ (("owners" : Str) = "contents") := by decide +kernel
def flds (d e : Addr) : List (Str × V) := putF "contents" (.ref e) (putF "owners" (.ref d) [])
theorem flds_own (d e : Addr) : (flds d e).lookup ("owners" : Str) = some (.ref d) := by
  unfold flds
  rw [lookup_putF, if_neg oc_, lookup_putF, if_pos rfl]
theorem flds_con (d e : Addr) : (flds d e).lookup ("contents" : Str) = some (.ref e) := by
  unfold flds
  rw [lookup_putF, if_pos rfl]
theorem flds_no (d e : Addr) {m : Str} (h1 : ¬ m = "owners") (h2 : ¬ m = "contents") : (flds d e).lookup m = none := by
  unfold flds
  rw [lookup_putF, if_neg h2, lookup_putF, if_neg h1]
  all_goals rfl
/-- a Store stands at p: its owners os at d, its contents at e -/
structure StoreAt (C : Addr) (H : Hp) (p d e : Addr) (os : List Int) : Prop where
  ob : ∃ dx, H p = some (.ins C dx (flds d e))
  ow : H d = some (.lst (os.map V.int))
  co : ∃ cs : List V, H e = some (.lst cs) ∧ cs.length = os.length
  de : d ≠ e
  sz : os.length ≤ 60
/-- all but the store's three objects is kept -/
def Keep (p d e : Addr) (H H' : Hp) : Prop := ∀ b o, H b = some o → b ≠ p → b ≠ d → b ≠ e → H' b = some o
theorem Keep.refl {p d e : Addr} {H : Hp} : Keep p d e H H := fun _ _ h _ _ _ => h
theorem Keep.trans {p d e : Addr} {H H1 H2 : Hp} (a : Keep p d e H H1) (b : Keep p d e H1 H2) : Keep p d e H H2 := fun c o h h1 h2 h3 => b c o (a c o h h1 h2 h3) h1 h2 h3
theorem Keep.same {p d e : Addr} {H H1 : Hp} (a : Same H H1) : Keep p d e H H1 := fun c o h _ _ _ => a c o h
theorem same_new {H : Hp} {l : Addr} {o : HO} (h : H l = none) : Same H (upd H l o) := fun b u q => by
  rw [upd_ne (ne_of_none q h)]
  exact q
namespace StoreAt
variable {C p d e : Addr} {H H' : Hp} {os : List Int}
theorem pd (S : StoreAt C H p d e os) : p ≠ d := let ⟨_, h⟩ := S.ob; ne_of h S.ow (by intro z; cases z)
theorem pe (S : StoreAt C H p d e os) : p ≠ e := let ⟨_, h⟩ := S.ob; let ⟨_, h2, _⟩ := S.co; ne_of h h2 (by intro z; cases z)
theorem same (S : StoreAt C H p d e os) (s : Same H H') : StoreAt C H' p d e os := by
  obtain ⟨⟨dx, h1⟩, h2, ⟨cs, h3, h4⟩, h5, h6⟩ := S
  exact ⟨⟨dx, s _ _ h1⟩, s _ _ h2, ⟨cs, s _ _ h3, h4⟩, h5, h6⟩
theorem put (S : StoreAt C H p d e os) (j : Nat) (v : Int) : StoreAt C (upd H d (.lst ((os.map V.int).set j (V.int v)))) p d e (os.set j v) := by
  have h0 := S.pd
  obtain ⟨⟨dx, h1⟩, h2, ⟨cs, h3, h4⟩, h5, h6⟩ := S
  exact ⟨⟨dx, by rw [upd_ne h0]; exact h1⟩, by rw [upd_same, List.map_set], ⟨cs, by rw [upd_ne h5.symm]; exact h3, by rw [List.length_set]; exact h4⟩, h5, by rw [List.length_set]; exact h6⟩
theorem con (S : StoreAt C H p d e os) {cs : List V} (h : cs.length = os.length) : StoreAt C (upd H e (.lst cs)) p d e os := by
  have h0 := S.pe
  obtain ⟨⟨dx, h1⟩, h2, _, h5, h6⟩ := S
  exact ⟨⟨dx, by rw [upd_ne h0]; exact h1⟩, by rw [upd_ne h5]; exact h2, ⟨cs, upd_same, h⟩, h5, h6⟩
end StoreAt
theorem Keep.put {p d e : Addr} {H : Hp} {o : HO} : Keep p d e H (upd H d o) := fun c u h _ h2 _ => by
  rw [upd_ne h2]
  exact h
theorem Keep.con {p d e : Addr} {H : Hp} {o : HO} : Keep p d e H (upd H e o) := fun c u h _ _ h3 => by
  rw [upd_ne h3]
  exact h
/-! ### a list's item in place: two rules of one's own -/
theorem ixN_of {n j : Nat} (h : j < n) : ixN n (j : Int) = some j := by
  unfold ixN
  rw [if_pos (Int.natCast_nonneg j), if_pos (Int.ofNat_lt.mpr h), Int.toNat_natCast]
def rGetN (K : PySem.W.Frag) : V → V → Hp → VK → Prop := fun x y H Q => ∃ (p : Addr) (xs : List V) (j : Nat) (v : V), x = .ref p ∧ y = .int (j : Int) ∧ SqL K H p xs ∧ xs[j]? = some v ∧ Q v H
theorem get_list {X : Cx} : PGet X (rGetN X.K) := by
  intro pins s σ H o i ov iv Q I ro ri h
  obtain ⟨p, xs, j, v, rfl, rfl, hq, he, q⟩ := h
  cases ro
  obtain ⟨t, rfl⟩ := ri
  obtain ⟨its, r, pl, hz⟩ := I.list hq
  obtain ⟨w, ew, rw'⟩ := r.get he
  have hl := r.length
  have hn := line63
  have hj : j < its.length := (List.getElem?_eq_some_iff.mp ew).1
  exact PySem.wpAny_getItem_list pl.isList (by omega) (by omega) (by rw [Int.toNat_natCast]; simpa using ew) ⟨v, H, I, rw', q⟩
theorem flat_ints (ns : List Int) : (ns.map V.int).all flatV = true := by
  rw [List.all_map, List.all_eq_true]
  intro x _
  rfl
theorem inV_ints (k : Int) : ∀ ns : List Int, inV (.int k) (ns.map V.int) = decide (k ∈ ns)
  | [] => rfl
  | n :: r => by
    have ih := inV_ints k r
    have e : inV (.int k) ((n :: r).map V.int) = ((n == k) || inV (.int k) (r.map V.int)) := rfl
    rw [e, ih]
    by_cases h : n = k
    · subst h
      simp
    · have h' : ¬ k = n := fun z => h z.symm
      simp [h, h']
/-! ### the promises -/
def spInit (C : Addr) : Sp := fun vs H Q _ => ∃ (p dx : Addr) (m : Int), vs = [.ref p, .int m] ∧ H p = some (.ins C dx []) ∧ 0 ≤ m ∧ m ≤ 60 ∧
  ∀ (d e : Addr) (H' : Hp), H d = none → H e = none → StoreAt C H' p d e (List.replicate m.toNat 0) → (∀ b o, H b = some o → b ≠ p → H' b = some o) → Q .non H'
def spTake (C : Addr) : Sp := fun vs H Q _ => ∃ (p d e : Addr) (os : List Int), vs = [.ref p] ∧ StoreAt C H p d e os ∧ ((0 : Int) ∉ os → Q .non H) ∧
  ∀ (j : Nat) (H' : Hp), os[j]? = some 0 → (∀ m, m < j → os[m]? ≠ some 0) → StoreAt C H' p d e (os.set j 1) → Keep p d e H H' → Q (.int (j : Int)) H'
def spLook (C : Addr) : Sp := fun vs H Q _ => ∃ (p d e : Addr) (os : List Int) (k : Int), vs = [.ref p, .int k] ∧ StoreAt C H p d e os ∧ cnt os k ≠ 0 ∧ Q .non H
/-- more and less: the count of a taken page goes by g -/
def spStep (C : Addr) (g : Int → Int) : Sp := fun vs H Q _ => ∃ (p d e : Addr) (os : List Int) (j : Nat), vs = [.ref p, .int (j : Int)] ∧ StoreAt C H p d e os ∧ j < os.length ∧ os.getD j 0 ≠ 0 ∧
  ∀ (H' : Hp), StoreAt C H' p d e (os.set j (g (os.getD j 0))) → Keep p d e H H' → Q .non H'
def spCount (C : Addr) : Sp := fun vs H Q _ => ∃ (p d e : Addr) (os : List Int) (k : Int), vs = [.ref p, .int k] ∧ StoreAt C H p d e os ∧ Q (.int (cnt os k)) H
def spFree (C : Addr) : Sp := fun vs H Q _ => ∃ (p d e : Addr) (os : List Int), vs = [.ref p] ∧ StoreAt C H p d e os ∧ Q (.int (os.count 0 : Nat)) H
/-- what the walk asks of the text as the top has made it -/
structure Txt (K : PySem.W.Frag) (mg : Str → Option Value) (C : Addr) : Prop where
  cl : Cls K C
  nO : NoAttr K C "owners"
  nC : NoAttr K C "contents"
  mgC : mg "Store" = some (.ref C)
  mgP : ∃ t, mg "PAGE_SIZE" = some (.int 8 t)
  len : mg "len" = none
  range : mg "range" = none
  isin : mg "isinstance" = none
  int : mg "int" = none
  bool : mg "bool" = none
  list : mg "list" = none
  max : mg "max" = none
section
variable {P : Program} {w : World} {K : PySem.W.Frag} {mg : Str → Option Value} {base : Heap}
/-! ### count -/
theorem scCount : FnScope ["self", "page"] ["self", "page"] (defScope sCount) := ⟨rfl, rfl, rfl, by decide +kernel, rfl, by decide +kernel, by decide +kernel⟩
theorem ok_count {f C : Addr} {fd : FuncData} (F : Fun K "count" "Store.count" sCount f fd) (T : Txt K mg C) : FnOk P w K mg base CX0 1 f fd ["self", "page"] (spCount C) := by
  refine F.ok scCount (fun vs H Q E h => ?_) (fun cdv A outer s H vs Q E hr h => ?_)
  · obtain ⟨p, d, e, os, k, rfl, _⟩ := h
    rfl
  · obtain ⟨p, d, e, os, k, rfl, S, q⟩ := h
    obtain ⟨⟨dx, h1⟩, ow, _, _, _⟩ := id S
    -- if not 0 <= page < len(self.owners): return 0; return self.owners[page]
    refine ⟨_, pss_cons (ps_if (pt_not (pt_chain op_le op_lt pe_int (pv 1) (pe_callB call_len_seq (by rfl) T.len PySem.boot_len (pa_cons (pe_fld (pv 0) rfl) pa_nil)))) (pss_one (ps_ret pe_int)) pss_nil)
      (pss_one (ps_ret (pe_ix ix_list (pe_fld (pv 0) rfl) (pv 1) (fun _ _ => rfl)))), ?_⟩
    refine ⟨_, rfl, _, _, rfl, rfl, _, rfl, ?_⟩
    refine ite2 (fun h0 => ?_) (fun h0 => ?_)
    · have h0 := of_decide_eq_true h0
      refine ⟨_, rfl, p, C, dx, _, _, rfl, h1, T.cl, T.nO, flds_own _ _, d, _, rfl, .inl (SqL.of ow), _, _, rfl, rfl, _, rfl, ?_⟩
      rw [List.length_map]
      refine ite2 (fun h2 => ?_) (fun h2 => ?_)
      · have h2 : ¬ k < (os.length : Int) := by simpa using h2
        have e0 : cnt os k = 0 := by
          unfold cnt
          rw [if_neg (fun z => h2 z.2)]
        rw [e0] at q
        exact q
      · have h2 : k < (os.length : Int) := by simpa using h2
        obtain ⟨j, rfl⟩ : ∃ j : Nat, k = (j : Int) := ⟨k.toNat, by omega⟩
        have hj : j < os.length := by omega
        rw [cnt_nat hj] at q
        refine ⟨_, rfl, p, C, dx, _, _, rfl, h1, T.cl, T.nO, flds_own _ _, _, rfl, d, _, _, _, rfl, rfl, SqL.of ow, atI_nat (v := V.int (os.getD j 0)) (by rw [List.getElem?_map, getD_some hj]; all_goals rfl), q⟩
    · have h0 : ¬ 0 ≤ k := fun z => h0 (decide_eq_true z)
      refine ⟨_, rfl, ?_⟩
      refine iteT ?_
      have e0 : cnt os k = 0 := by
        unfold cnt
        rw [if_neg (fun z => h0 z.1)]
      rw [e0] at q
      exact q
/-! ### free -/
theorem scFree : FnScope ["self"] ["self"] (defScope sFree) := ⟨rfl, rfl, rfl, by decide +kernel, rfl, by decide +kernel, by decide +kernel⟩
theorem ok_free {f C : Addr} {fd : FuncData} (F : Fun K "free" "Store.free" sFree f fd) (T : Txt K mg C) : FnOk P w K mg base CX0 1 f fd ["self"] (spFree C) := by
  refine F.ok scFree (fun vs H Q E h => ?_) (fun cdv A outer s H vs Q E hr h => ?_)
  · obtain ⟨p, d, e, os, rfl, _⟩ := h
    rfl
  · obtain ⟨p, d, e, os, rfl, S, q⟩ := h
    obtain ⟨⟨dx, h1⟩, ow, _, _, _⟩ := id S
    -- return self.owners.count(0)
    refine ⟨_, pss_one (ps_ret (pe_bm PySem.F.plainAttrs_list PySem.F.slot_list_count PySem.F.type_list_count mt_lcount (pe_fld (pv 0) rfl) (pa_cons pe_int pa_nil))), ?_⟩
    exact ⟨_, rfl, p, C, dx, _, _, rfl, h1, T.cl, T.nO, flds_own _ _, .inl ⟨rfl, _, SqL.of ow⟩, d, os, 0, rfl, rfl, SqL.of ow, q⟩
/-! ### take -/
theorem scTake : FnScope ["self", "page"] ["self"] (defScope sTake) := ⟨rfl, rfl, rfl, by decide +kernel, rfl, by decide +kernel, by decide +kernel⟩
theorem first_zero : ∀ {os : List Int}, (0 : Int) ∈ os → ∃ j : Nat, os[j]? = some 0 ∧ ∀ m, m < j → os[m]? ≠ some 0
  | x :: r, h => by
    by_cases hx : x = 0
    · subst hx
      exact ⟨0, rfl, fun m hm => absurd hm (Nat.not_lt_zero _)⟩
    · have hr : (0 : Int) ∈ r := by
        rcases List.mem_cons.mp h with q | q
        · exact absurd q.symm hx
        · exact q
      obtain ⟨j, h1, h2⟩ := first_zero hr
      refine ⟨j + 1, by simpa using h1, fun m hm => ?_⟩
      cases m with
      | zero => simpa using hx
      | succ m => simpa using h2 m (by omega)
theorem ok_take {f C : Addr} {fd : FuncData} (F : Fun K "take" "Store.take" sTake f fd) (T : Txt K mg C) : FnOk P w K mg base CX0 1 f fd ["self"] (spTake C) := by
  refine F.ok scTake (fun vs H Q E h => ?_) (fun cdv A outer s H vs Q E hr h => ?_)
  · obtain ⟨p, d, e, os, rfl, _⟩ := h
    rfl
  · obtain ⟨p, d, e, os, rfl, S, qn, qj⟩ := h
    obtain ⟨⟨dx, h1⟩, ow, ⟨cs, co, hcs⟩, de, sz⟩ := id S
    obtain ⟨tP, mgP⟩ := T.mgP
    refine ⟨_, pss_cons (ps_if (pt_cmpR op_notIn_seq pe_int (pe_fld (pv 0) rfl) (by rfl)) (pss_one (ps_ret pe_non)) pss_nil)
      (pss_cons (ps_set (i := 1) scTake.nd rfl (.inl rfl) (pe_bm PySem.F.plainAttrs_list PySem.F.slot_list_index PySem.F.type_list_index mt_index (pe_fld (pv 0) rfl) (pa_cons pe_int pa_nil)))
      (pss_cons (ps_asg pe_int (pg_sub (pe_fld (pv 0) rfl) (pv 1) set_list))
      (pss_cons (ps_asg (pe_op op_rep (pe_lst (pa_cons pe_int pa_nil)) (pe_glob (v := V.int 8) (by rfl) mgP ⟨_, rfl⟩)) (pg_sub (pe_fld (pv 0) rfl) (pv 1) set_list))
      (pss_one (ps_ret (pv 1)))))), ?_⟩
    -- 0 not in self.owners
    refine ⟨_, rfl, p, C, dx, _, _, rfl, h1, T.cl, T.nO, flds_own _ _, d, _, rfl, .inl (SqL.of ow), rfl, flat_ints os, _, rfl, ?_⟩
    rw [if_pos rfl, inV_ints]
    by_cases h0 : (0 : Int) ∈ os
    · rw [decide_eq_true h0]
      refine iteF ?_
      obtain ⟨j, hj, hno⟩ := first_zero h0
      have hjl : j < os.length := (List.getElem?_eq_some_iff.mp hj).1
      -- page = self.owners.index(0)
      refine ⟨_, rfl, p, C, dx, _, _, rfl, h1, T.cl, T.nO, flds_own _ _, .inl ⟨rfl, _, SqL.of ow⟩, d, os.map V.int, .int 0, j, .int 0, rfl, rfl, SqL.of ow, rfl, flat_ints os, by rw [List.getElem?_map, hj]; rfl, by decide, fun m z hm hz => ?_, ?_⟩
      · rw [List.getElem?_map] at hz
        have hml : m < os.length := by omega
        rw [getD_some hml] at hz
        have hz := Option.some.inj hz
        subst hz
        have hne : os.getD m 0 ≠ 0 := fun z => hno m hm (by rw [getD_some hml, z])
        exact beq_eq_false_iff_ne.mpr hne
      -- self.owners[page] = 1
      refine ⟨_, rfl, p, C, dx, _, _, rfl, h1, T.cl, T.nO, flds_own _ _, _, rfl, d, _, _, j, rfl, rfl, ow, by rw [List.length_map]; exact ixN_of hjl, ?_⟩
      have S1 := S.put j 1
      generalize hH1 : upd H d (.lst ((os.map V.int).set j (V.int 1))) = H1 at S1
      have K1 : Keep p d e H H1 := by rw [← hH1]; exact Keep.put
      -- self.contents[page] = [0] * PAGE_SIZE
      refine ⟨by show 1 ≤ sizeLine; decide, fun l hl => ⟨l, 8, [.int 0], rfl, rfl, upd_same, by decide, by decide, by decide, fun l2 hl2 => ?_⟩⟩
      have s2 : Same H1 (upd (upd H1 l (.lst [.int 0])) l2 (.lst (List.replicate (8 : Int).toNat [V.int 0]).flatten)) := (same_new hl).trans (same_new hl2)
      have S2 := S1.same s2
      obtain ⟨⟨dx2, h2⟩, ow2, ⟨cs2, co2, hcs2⟩, _, _⟩ := id S2
      refine ⟨_, rfl, p, C, dx2, _, _, rfl, h2, T.cl, T.nC, flds_con _ _, _, rfl, e, _, _, j, rfl, rfl, co2, ixN_of (by rw [hcs2, List.length_set]; exact hjl), ?_⟩
      refine ⟨_, rfl, ?_⟩
      exact qj j _ hj hno (S2.con (by rw [List.length_set]; exact hcs2)) ((K1.trans (Keep.same s2)).trans Keep.con)
    · rw [decide_eq_false h0]
      refine iteT ?_
      exact qn h0
/-! ### look_taken -/
theorem scLook : FnScope ["self", "page"] ["self", "page"] (defScope sLook) := ⟨rfl, rfl, rfl, by decide +kernel, rfl, by decide +kernel, by decide +kernel⟩
theorem ok_look {f fc C : Addr} {fd fdc : FuncData} (F : Fun K "look_taken" "Store.look_taken" sLook f fd) (T : Txt K mg C)
    (Gc : FnOk P w K mg base CX0 1 fc fdc ["self", "page"] (spCount C)) (bc : Binds K fdc ["self", "page"] []) (mc : Meth K C "count" fc) : FnOk P w K mg base CX0 2 f fd ["self", "page"] (spLook C) := by
  refine F.ok scLook (fun vs H Q E h => ?_) (fun cdv A outer s H vs Q E hr h => ?_)
  · obtain ⟨p, d, e, os, k, rfl, _⟩ := h
    rfl
  · obtain ⟨p, d, e, os, k, rfl, S, hk, q⟩ := h
    obtain ⟨⟨dx, h1⟩, ow, _, _, _⟩ := id S
    -- if self.count(page) == 0: raise ..
    refine ⟨_, pss_one (ps_if (pt_cmpR op_eq (pe_meth (pv 0) T.cl mc Gc hr bc .nil pass0 (pa_cons (pv 1) pa_nil)) pe_int (nomark _)) (pss_one ps_never) pss_nil), ?_⟩
    refine ⟨_, rfl, p, dx, _, rfl, h1, flds_no _ _ (by decide +kernel) (by decide +kernel), _, rfl, p, d, e, os, k, rfl, S, rfl, _, rfl, ?_⟩
    have hne : ¬ V.int (cnt os k) = V.int 0 := fun z => hk (V.int.inj z)
    rw [decide_eq_false hne]
    exact iteF q
/-! ### more, less -/
theorem scMore : FnScope ["self", "page"] ["self", "page"] (defScope sMore) := ⟨rfl, rfl, rfl, by decide +kernel, rfl, by decide +kernel, by decide +kernel⟩
theorem ok_more {f fl C : Addr} {fd fdl : FuncData} (F : Fun K "more" "Store.more" sMore f fd) (T : Txt K mg C)
    (Gl : FnOk P w K mg base CX0 2 fl fdl ["self", "page"] (spLook C)) (bl : Binds K fdl ["self", "page"] []) (ml : Meth K C "look_taken" fl) : FnOk P w K mg base CX0 3 f fd ["self", "page"] (spStep C fun x => x + 1) := by
  refine F.ok scMore (fun vs H Q E h => ?_) (fun cdv A outer s H vs Q E hr h => ?_)
  · obtain ⟨p, d, e, os, k, rfl, _⟩ := h
    rfl
  · obtain ⟨p, d, e, os, j, rfl, S, hj, hk, q⟩ := h
    obtain ⟨⟨dx, h1⟩, ow, _, _, _⟩ := id S
    refine ⟨_, pss_cons (ps_expr (pe_meth (pv 0) T.cl ml Gl hr bl .nil pass0 (pa_cons (pv 1) pa_nil))) (pss_one (ps_augS (pe_fld (pv 0) rfl) (pv 1) get_list pe_int ip_add set_list)), ?_⟩
    refine ⟨_, rfl, p, dx, _, rfl, h1, flds_no _ _ (by decide +kernel) (by decide +kernel), _, rfl, p, d, e, os, _, rfl, S, by rw [cnt_nat hj]; exact hk, ?_⟩
    refine ⟨_, rfl, p, C, dx, _, _, rfl, h1, T.cl, T.nO, flds_own _ _, _, rfl, d, _, j, V.int (os.getD j 0), rfl, rfl, SqL.of ow, by rw [List.getElem?_map, getD_some hj]; rfl, _, _, rfl, rfl, d, _, _, j, rfl, rfl, ow, by rw [List.length_map]; exact ixN_of hj, ?_⟩
    exact q _ (S.put j _) Keep.put
theorem scLess : FnScope ["self", "page"] ["self", "page"] (defScope sLess) := ⟨rfl, rfl, rfl, by decide +kernel, rfl, by decide +kernel, by decide +kernel⟩
theorem ok_less {f fl C : Addr} {fd fdl : FuncData} (F : Fun K "less" "Store.less" sLess f fd) (T : Txt K mg C)
    (Gl : FnOk P w K mg base CX0 2 fl fdl ["self", "page"] (spLook C)) (bl : Binds K fdl ["self", "page"] []) (ml : Meth K C "look_taken" fl) : FnOk P w K mg base CX0 3 f fd ["self", "page"] (spStep C fun x => x - 1) := by
  refine F.ok scLess (fun vs H Q E h => ?_) (fun cdv A outer s H vs Q E hr h => ?_)
  · obtain ⟨p, d, e, os, k, rfl, _⟩ := h
    rfl
  · obtain ⟨p, d, e, os, j, rfl, S, hj, hk, q⟩ := h
    obtain ⟨⟨dx, h1⟩, ow, _, _, _⟩ := id S
    refine ⟨_, pss_cons (ps_expr (pe_meth (pv 0) T.cl ml Gl hr bl .nil pass0 (pa_cons (pv 1) pa_nil))) (pss_one (ps_augS (pe_fld (pv 0) rfl) (pv 1) get_list pe_int ip_sub set_list)), ?_⟩
    refine ⟨_, rfl, p, dx, _, rfl, h1, flds_no _ _ (by decide +kernel) (by decide +kernel), _, rfl, p, d, e, os, _, rfl, S, by rw [cnt_nat hj]; exact hk, ?_⟩
    refine ⟨_, rfl, p, C, dx, _, _, rfl, h1, T.cl, T.nO, flds_own _ _, _, rfl, d, _, j, V.int (os.getD j 0), rfl, rfl, SqL.of ow, by rw [List.getElem?_map, getD_some hj]; rfl, _, _, rfl, rfl, d, _, _, j, rfl, rfl, ow, by rw [List.length_map]; exact ixN_of hj, ?_⟩
    exact q _ (S.put j _) Keep.put
/-! ### __init__ -/
theorem scInit : FnScope ["self", "many", "page"] ["self", "many"] (defScope sInit) := ⟨rfl, rfl, rfl, by decide +kernel, rfl, by decide +kernel, by decide +kernel⟩
theorem rep_ints (n : Nat) : (List.replicate n [V.int 0]).flatten = (List.replicate n (0 : Int)).map V.int := by
  induction n with
  | zero => rfl
  | succ n ih => rw [List.replicate_succ, List.flatten_cons, ih, List.replicate_succ, List.map_cons]; rfl
theorem ok_init {f C : Addr} {fd : FuncData} (F : Fun K "__init__" "Store.__init__" sInit f fd) (T : Txt K mg C) : FnOk P w K mg base CX0 1 f fd ["self", "many"] (spInit C) := by
  refine F.ok scInit (fun vs H Q E h => ?_) (fun cdv A outer s H vs Q E hr h => ?_)
  · obtain ⟨p, dx, m, rfl, _⟩ := h
    rfl
  · obtain ⟨p, dx, m, rfl, hp, m0, m60, k⟩ := h
    obtain ⟨tP, mgP⟩ := T.mgP
    -- self.owners = [0] * many; self.contents = [[0] * PAGE_SIZE for page in range(many)]
    refine ⟨_, pss_cons (ps_fld (pv 0) (pe_op op_rep (pe_lst (pa_cons pe_int pa_nil)) (pv 1)) rfl)
      (pss_one (ps_fld (pv 0) (pe_lc (own := [("page", 2)]) (g := gName 2) (tt := tYes) rfl scInit.nd (pi_range1 (by rfl) T.range (pa_cons (pv 1) pa_nil)) (blkOk_by (own := [("page", 2)]) (N := ["self", "many", "page"]) (sc := defScope sInit) (by decide +kernel))
        (fun _ _ _ _ _ => pg_name (i := 2) scInit.nd rfl (Or.inl rfl)) (fun _ _ _ _ _ => pts_nil) (fun _ _ _ _ _ => pe_op op_rep (pe_lst (pa_cons pe_int pa_nil)) (pe_glob (v := V.int 8) (by rfl) mgP ⟨_, rfl⟩))) rfl)), ?_⟩
    refine ⟨by show 1 ≤ sizeLine; decide, fun l hl => ⟨_, rfl, l, m, [.int 0], rfl, rfl, upd_same, by omega, by omega, ?_, fun d hd => ?_⟩⟩
    · show 1 * m.toNat ≤ sizeLine
      have : (60 : Nat) ≤ sizeLine := by decide
      omega
    rw [rep_ints]
    have s1 : Same H (upd (upd H l (.lst [.int 0])) d (.lst ((List.replicate m.toNat (0 : Int)).map V.int))) := (same_new hl).trans (same_new hd)
    have hd0 : H d = none := (same_new hl).free hd
    generalize hH1 : upd (upd H l (.lst [.int 0])) d (.lst ((List.replicate m.toNat (0 : Int)).map V.int)) = H1 at s1
    have ow1 : H1 d = some (.lst ((List.replicate m.toNat (0 : Int)).map V.int)) := by rw [← hH1]; exact upd_same
    have h1 : H1 p = some (.ins C dx []) := s1 _ _ hp
    have pd : p ≠ d := ne_of h1 ow1 (by intro z; cases z)
    refine ⟨_, rfl, p, C, dx, [], rfl, h1, T.cl, T.nO, by show 0 < 1000; decide, ?_⟩
    -- the comprehension
    generalize hH2 : upd H1 p (.ins C dx (putF "owners" (.ref d) [])) = H2
    have h2 : H2 p = some (.ins C dx (putF "owners" (.ref d) [])) := by rw [← hH2]; exact upd_same
    have ow2 : H2 d = some (.lst ((List.replicate m.toNat (0 : Int)).map V.int)) := by rw [← hH2, upd_ne pd.symm]; exact ow1
    have k2 : ∀ b o, H b = some o → b ≠ p → H2 b = some o := fun b o q hb => by rw [← hH2, upd_ne hb]; exact s1 _ _ q
    refine ⟨_, rfl, m, rfl, by omega, by omega, fun D hD => ?_⟩
    refine lc_range (lo := 0) (n := m.toNat) (fun i H' => Same H2 H' ∧ ∃ acc : List V, H' D = some (.lst acc) ∧ acc.length = i) ⟨same_new hD, [], upd_same, rfl⟩ ?_ ?_
    · rintro i H' hi ⟨sm, acc, hA, hl'⟩
      refine ⟨rfl, ?_⟩
      refine ⟨by show 1 ≤ sizeLine; decide, fun l1 hl1 => ⟨l1, 8, [.int 0], rfl, rfl, upd_same, by decide, by decide, by decide, fun l2 hl2 => ?_⟩⟩
      have s3 : Same H' (upd (upd H' l1 (.lst [.int 0])) l2 (.lst (List.replicate (8 : Int).toNat [V.int 0]).flatten)) := (same_new hl1).trans (same_new hl2)
      refine ⟨acc, s3 _ _ hA, ?_, ?_, _, upd_same, ?_⟩
      · have : (60 : Nat) < sizeLine := by decide
        omega
      · intro b o q
        have nbD : b ≠ D := ne_of_none q hD
        rw [upd_ne nbD]
        exact s3 _ _ (sm _ _ q)
      · rw [List.length_append, List.length_singleton, hl']
    · rintro H' ⟨sm, acc, hA, hl'⟩
      have h3 := sm _ _ h2
      have ow3 := sm _ _ ow2
      have dD : d ≠ D := ne_of_none ow2 hD
      have pD : p ≠ D := ne_of_none h2 hD
      have hD0 : H D = none := by
        cases q : H D with
        | none => rfl
        | some o => rw [k2 _ _ q pD.symm] at hD; cases hD
      refine ⟨_, rfl, p, C, dx, _, rfl, h3, T.cl, T.nC, by show 1 < 1000; decide, ?_⟩
      refine k d D _ hd0 hD0 ⟨⟨dx, upd_same⟩, by rw [upd_ne pd.symm]; exact ow3, ⟨acc, by rw [upd_ne pD.symm]; exact hA, by rw [hl', List.length_replicate]⟩, dD, by rw [List.length_replicate]; omega⟩ fun b o q hb => ?_
      rw [upd_ne hb]
      exact sm _ _ (k2 b o q hb)
end
end Own

/-! The walk of the law's own small defs. -/
namespace Own
open PySem L2
/-! ### a def, a method, as their callers need them -/
structure Df (P : Program) (w : World) (K : PySem.W.Frag) (mg : Str → Option Value) (base : Heap) (x : Str) (k : Nat) (ps : List Str) (sp : Sp) : Prop where
  ex : ∃ (f : Addr) (fd : FuncData), FnOk P w K mg base CX0 k f fd ps sp ∧ Binds K fd ps [] ∧ mg x = some (.ref f) ∧ PySem.W.keepIn K (.ref f) = true
structure Mt (P : Program) (w : World) (K : PySem.W.Frag) (mg : Str → Option Value) (base : Heap) (C : Addr) (x : Str) (k : Nat) (ps : List Str) (sp : Sp) : Prop where
  ex : ∃ (f : Addr) (fd : FuncData), FnOk P w K mg base CX0 k f fd ps sp ∧ Binds K fd ps [] ∧ Meth K C x f
/-! ### the promises -/
def spWhole : Sp := fun vs H Q _ => ∃ i : Int, vs = [.int i] ∧ Q (.bl true) H
def spCell (K : PySem.W.Frag) : Sp := fun vs H Q _ => ∃ (a : Addr) (ns : List Int), vs = [.ref a, .int 0] ∧ SqL K H a (ns.map V.int) ∧ ∀ z : Int, Q (.int z) H
def spMix : Sp := fun vs H Q _ => ∃ c g q : Int, vs = [.int c, .int g, .int q] ∧ (-(2 ^ 64) < g ∧ g < 2 ^ 64) ∧ 0 < q ∧ ∀ z : Int, Q (.int z) H
def spNumbers : Sp := fun vs H Q _ => ∃ (a b : Addr) (ns : List Int), vs = [.ref a, .ref b] ∧ H a = some (.lst (ns.map V.int)) ∧ H b = some (.lst (ns.map V.int)) ∧ Q (.bl true) H
/-- a list of deeds: tuples of three ints -/
def Deeds (H : Hp) (ts : List V) : Prop := ∀ t ∈ ts, ∃ (x : Addr) (i j k : Int), t = .ref x ∧ H x = some (.tup [.int i, .int j, .int k])
theorem Deeds.same {H H' : Hp} {ts : List V} (h : Deeds H ts) (s : Same H H') : Deeds H' ts := fun t ht => by
  obtain ⟨x, i, j, k, e, q⟩ := h t ht
  exact ⟨x, i, j, k, e, s _ _ q⟩
def spDeeds (K : PySem.W.Frag) : Sp := fun vs H Q _ => ∃ (a : Addr) (ns : List Int) (m : Int), vs = [.ref a, .int m] ∧ SqL K H a (ns.map V.int) ∧ ns.length ≤ 63 ∧ 0 ≤ m ∧ m ≤ 60 ∧
  ∀ (l : Addr) (ts : List V) (H' : Hp), Same H H' → H l = none → H' l = some (.lst ts) → ts.length ≤ 300 → Deeds H' ts → Q (.ref l) H'
def spTaken (C : Addr) : Sp := fun vs H Q _ => ∃ (p d e : Addr) (os : List Int), vs = [.ref p, .int (os.length : Int)] ∧ StoreAt C H p d e os ∧
  ∀ (l : Addr) (H' : Hp), Same H H' → H l = none → H' l = some (.lst ((taken os).map fun k : Nat => V.int (k : Int))) → Q (.ref l) H'
def spLoosed (C : Addr) : Sp := fun vs H Q _ => ∃ (p d e : Addr) (os : List Int), vs = [.ref p, .int (os.length : Int)] ∧ StoreAt C H p d e os ∧ Within os 1000 ∧
  ∀ H' : Hp, StoreAt C H' p d e (List.replicate os.length 0) → Keep p d e H H' → Q (.bl true) H'
section
variable {P : Program} {w : World} {K : PySem.W.Frag} {mg : Str → Option Value} {base : Heap}
/-! ### _law_whole -/
theorem scWhole : FnScope ["_law_found"] ["_law_found"] (defScope sWhole) := ⟨rfl, rfl, rfl, by decide +kernel, rfl, by decide +kernel, by decide +kernel⟩
theorem ok_whole {f C : Addr} {fd : FuncData} (F : Fun K "_law_whole" "_law_whole" sWhole f fd) (T : Txt K mg C) : FnOk P w K mg base CX0 1 f fd ["_law_found"] spWhole := by
  refine F.ok scWhole (fun vs H Q E h => ?_) (fun cdv A outer s H vs Q E hr h => ?_)
  · obtain ⟨i, rfl, _⟩ := h
    rfl
  · obtain ⟨i, rfl, q⟩ := h
    refine ⟨_, pss_one (ps_ret (pe_and (pe_callB call_isi (by rfl) T.isin (by decide +kernel) (pa_cons (pv 0) (pa_cons (pe_bltn (v := V.ty "int") (by rfl) T.int (by decide +kernel) rfl) pa_nil)))
      (pe_one (pe_not (pe_callB call_isi (by rfl) T.isin (by decide +kernel) (pa_cons (pv 0) (pa_cons (pe_bltn (v := V.ty "bool") (by rfl) T.bool (by decide +kernel) rfl) pa_nil))))))), ?_⟩
    refine ⟨_, rfl, .int i, .ty "int", _, _, true, rfl, .ty "int", .base (.int i), kit_ty (by decide +kernel), _, rfl, ?_⟩
    refine iteT ?_
    exact ⟨_, rfl, .int i, .ty "bool", _, _, false, rfl, .ty "bool", .base (.int i), kit_ty (by decide +kernel), _, rfl, q⟩
/-! ### _law_cell_at -/
theorem scCell : FnScope ["_law_script", "_law_k"] ["_law_script", "_law_k"] (defScope sCell) := ⟨rfl, rfl, rfl, by decide +kernel, rfl, by decide +kernel, by decide +kernel⟩
theorem ok_cell {f C : Addr} {fd : FuncData} (F : Fun K "_law_cell_at" "_law_cell_at" sCell f fd) (T : Txt K mg C) : FnOk P w K mg base CX0 1 f fd ["_law_script", "_law_k"] (spCell K) := by
  refine F.ok scCell (fun vs H Q E h => ?_) (fun cdv A outer s H vs Q E hr h => ?_)
  · obtain ⟨a, ns, rfl, _⟩ := h
    rfl
  · obtain ⟨a, ns, rfl, hS, q⟩ := h
    refine ⟨_, pss_cons (ps_if (pt_cmpR op_lt (pv 1) (pe_callB call_len_seq (by rfl) T.len PySem.boot_len (pa_cons (pv 0) pa_nil)) (nomark _)) (pss_one (ps_ret (pe_ix ix_list (pv 0) (pv 1) (fun _ _ => rfl)))) pss_nil) (pss_one (ps_ret pe_int)), ?_⟩
    refine ⟨_, rfl, _, rfl, a, _, rfl, .inl hS, _, _, rfl, rfl, _, rfl, ?_⟩
    refine ite2 (fun h0 => ?_) (fun h0 => ?_)
    · have h0 := of_decide_eq_true h0
      rw [List.length_map] at h0
      have hl : 0 < ns.length := by omega
      exact ⟨_, rfl, _, rfl, a, _, ((0 : Nat) : Int), _, rfl, rfl, hS, atI_nat (j := 0) (v := V.int (ns.getD 0 0)) (by rw [List.getElem?_map, getD_some hl]; rfl), q _⟩
    · exact q 0
/-! ### _law_mix -/
theorem scMix : FnScope ["_law_cell", "_law_factor", "_law_prime"] ["_law_cell", "_law_factor", "_law_prime"] (defScope sMix) := ⟨rfl, rfl, rfl, by decide +kernel, rfl, by decide +kernel, by decide +kernel⟩
theorem ok_mix {f : Addr} {fd : FuncData} (F : Fun K "_law_mix" "_law_mix" sMix f fd) : FnOk P w K mg base CX0 1 f fd ["_law_cell", "_law_factor", "_law_prime"] spMix := by
  refine F.ok scMix (fun vs H Q E h => ?_) (fun cdv A outer s H vs Q E hr h => ?_)
  · obtain ⟨c, g, q, rfl, _⟩ := h
    rfl
  · obtain ⟨c, g, q, rfl, hg, hq, k⟩ := h
    refine ⟨_, pss_one (ps_ret (pe_op op_mod (pe_op op_mul (pv 0) (pv 1)) (pv 2))), ?_⟩
    exact ⟨_, rfl, _, rfl, _, _, rfl, rfl, .inr hg, _, rfl, _, _, rfl, rfl, hq, k _⟩
/-! ### _law_numbers -/
theorem scNumbers : FnScope ["_law_found", "_law_due", "_law_number"] ["_law_found", "_law_due"] (defScope sNumbers) := ⟨rfl, rfl, rfl, by decide +kernel, rfl, by decide +kernel, by decide +kernel⟩
theorem dpAll_ints {H : Hp} : ∀ ns : List Int, DpAll K H (ns.map V.int) (ns.map PyData.int)
  | [] => .nil
  | n :: r => .cons (.int n) (dpAll_ints r)
theorem int_at {ns : List Int} {i : Nat} {y : V} (h : (ns.map V.int)[i]? = some y) : ∃ z, y = V.int z := by
  rw [List.getElem?_map] at h
  cases e : ns[i]? with
  | none =>
    rw [e] at h
    cases h
  | some z =>
    rw [e] at h
    exact ⟨z, (Option.some.inj h).symm⟩
theorem ok_numbers {f C : Addr} {fd : FuncData} (F : Fun K "_law_numbers" "_law_numbers" sNumbers f fd) (T : Txt K mg C) (W : Df P w K mg base "_law_whole" 1 ["_law_found"] spWhole) : FnOk P w K mg base CX0 2 f fd ["_law_found", "_law_due"] spNumbers := by
  obtain ⟨fW, fdW, GW, bW, mW, kW⟩ := W
  refine F.ok scNumbers (fun vs H Q E h => ?_) (fun cdv A outer s H vs Q E hr h => ?_)
  · obtain ⟨a, b, ns, rfl, _⟩ := h
    rfl
  · obtain ⟨a, b, ns, rfl, hA, hB, q⟩ := h
    refine ⟨_, pss_cons (ps_if (PW.pt (pw_or (pt_not (pt_val (pe_callB call_isi (by rfl) T.isin (by decide +kernel) (pa_cons (pv 0) (pa_cons (pe_bltn (v := V.ty "list") (by rfl) T.list (by decide +kernel) rfl) pa_nil)))))
        (pw_or1 (pt_cmpR op_ne (pe_callB call_len_seq (by rfl) T.len PySem.boot_len (pa_cons (pv 0) pa_nil)) (pe_callB call_len_seq (by rfl) T.len PySem.boot_len (pa_cons (pv 1) pa_nil)) (nomark _))))) (pss_one (ps_ret pe_bl)) pss_nil)
      (pss_cons (ps_for PassesOwn.never rfl (pi_list (pv 0)) (pg_name (i := 2) scNumbers.nd rfl (Or.inl rfl)) (pss_one (ps_if (pt_not (pt_val (pe_call GW hr (by rfl) mW kW bW .nil pass0 (pa_cons (pv 2) pa_nil)))) (pss_one (ps_ret pe_bl)) pss_nil)))
      (pss_one (ps_ret (pe_cmpR (op_eqD hr.units) (pv 0) (pv 1) (nomark _))))), ?_⟩
    refine ⟨_, rfl, .ref a, .ty "list", _, _, true, rfl, .ty "list", .base (.lst hA), kit_ty (by decide +kernel), _, rfl, ?_⟩
    refine iteF ?_
    refine ⟨_, rfl, a, _, rfl, .inl (SqL.of hA), _, rfl, b, _, rfl, .inl (SqL.of hB), rfl, _, rfl, ?_⟩
    refine iteNS rfl ?_
    refine ⟨_, rfl, a, rfl, ⟨_, SqL.of hA⟩, for_list (K := K) (a := a) (xs := ns.map V.int) (fun i σ H' => H' = H ∧ ∃ v : Option V, σ = [some (.ref a), some (.ref b), v]) ⟨rfl, none, rfl⟩ (fun i σ H' _ ⟨e, _⟩ => by rw [e]; exact SqL.of hA) ?_ ?_⟩
    · rintro i y σ H' hi ⟨rfl, v, rfl⟩
      obtain ⟨z, rfl⟩ := int_at hi
      refine ⟨_, rfl, z, rfl, _, rfl, ?_⟩
      refine iteF ?_
      exact ⟨rfl, _, rfl⟩
    · rintro σ H' ⟨rfl, v, rfl⟩
      refine ⟨_, rfl, _, rfl, _, _, .lst (SqL.of hA) (dpAll_ints ns), .lst (SqL.of hB) (dpAll_ints ns), PySem.W.ke_shaped_ints ns, PySem.W.ke_shaped_ints ns, ?_⟩
      rw [SeqAt.eqv_refl _ (SeqAt.canLay_of_shaped (PySem.W.ke_shaped_ints ns))]
      exact q
/-! ### _law_taken -/
theorem scTaken : FnScope ["_law_store", "_law_many", "_law_page"] ["_law_store", "_law_many"] (defScope sTaken) := ⟨rfl, rfl, rfl, by decide +kernel, rfl, by decide +kernel, by decide +kernel⟩
theorem ok_taken {f C : Addr} {fd : FuncData} (F : Fun K "_law_taken" "_law_taken" sTaken f fd) (T : Txt K mg C) (Mc : Mt P w K mg base C "count" 1 ["self", "page"] (spCount C)) : FnOk P w K mg base CX0 2 f fd ["_law_store", "_law_many"] (spTaken C) := by
  obtain ⟨fc, fdc, Gc, bc, mc⟩ := Mc
  refine F.ok scTaken (fun vs H Q E h => ?_) (fun cdv A outer s H vs Q E hr h => ?_)
  · obtain ⟨p, d, e, os, rfl, _⟩ := h
    rfl
  · obtain ⟨p, d, e, os, rfl, S, q⟩ := h
    refine ⟨_, pss_one (ps_ret (pe_lc (own := [("_law_page", 2)]) (g := gName 2) rfl scTaken.nd (pi_range1 (by rfl) T.range (pa_cons (pv 1) pa_nil)) (blkOk_by (own := [("_law_page", 2)]) (N := ["_law_store", "_law_many", "_law_page"]) (sc := defScope sTaken) (by decide +kernel))
      (fun _ _ _ _ _ => pg_name (i := 2) scTaken.nd rfl (Or.inl rfl)) (fun _ _ _ _ _ => pts_one (pt_cmpR op_gt (pe_meth (pv 0) T.cl mc Gc hr bc .nil pass0 (pa_cons (pv 2) pa_nil)) pe_int (nomark _))) (fun _ _ _ _ _ => pv 2))), ?_⟩
    have hsz := S.sz
    refine ⟨_, rfl, _, rfl, by omega, by omega, fun D hD => ?_⟩
    rw [Int.toNat_natCast]
    refine lc_range (lo := 0) (n := os.length) (fun i H' => Same H H' ∧ H' D = some (.lst (((List.range i).filter fun k => decide (0 < os.getD k 0)).map fun k : Nat => V.int (k : Int)))) ⟨same_new hD, upd_same⟩ ?_ ?_
    · rintro i H' hi ⟨sm, hA⟩
      have S' := S.same sm
      obtain ⟨dx, h1⟩ := S'.ob
      refine ⟨rfl, _, rfl, p, dx, _, rfl, h1, flds_no _ _ (by decide +kernel) (by decide +kernel), _, rfl, p, d, e, os, _, rfl, S', _, _, rfl, rfl, _, rfl, ?_⟩
      have ei : (0 : Int) + (i : Int) = (i : Int) := by omega
      rw [ei, cnt_nat hi, filter_turn]
      by_cases h0 : 0 < os.getD i 0
      · rw [decide_eq_true h0]
        refine iteT ?_
        refine ⟨_, rfl, _, hA, ?_, ?_, ?_⟩
        · have h1 := List.length_filter_le (fun k => decide (0 < os.getD k 0)) (List.range i)
          rw [List.length_range] at h1
          rw [List.length_map]
          have : (60 : Nat) < sizeLine := by decide
          omega
        · intro b o z
          rw [upd_ne (ne_of_none z hD)]
          exact sm _ _ z
        · rw [upd_same, if_pos rfl, List.map_append]
          rfl
      · rw [decide_eq_false h0]
        refine iteF ?_
        refine ⟨sm, ?_⟩
        rw [if_neg (by decide), List.append_nil]
        exact hA
    · rintro H' ⟨sm, hA⟩
      exact q D H' sm hD hA
/-! ### _law_deeds_by -/
theorem scDeeds : FnScope ["_law_script", "_law_many", "_law_deeds", "_law_digits", "_law_cell", "_law_left", "_law_turns", "_law_page"] ["_law_script", "_law_many"] (defScope sDeeds) := ⟨rfl, rfl, rfl, by decide +kernel, rfl, by decide +kernel, by decide +kernel⟩
theorem cut_ints {ns : List Int} {lo hi : Option Int} {i : Nat} {y : V} (h : (cutV (ns.map V.int) lo hi)[i]? = some y) : ∃ z, y = V.int z := by
  have hm := List.mem_of_getElem? h
  unfold cutV at hm
  obtain ⟨z, _, e⟩ := List.mem_map.mp (List.mem_of_mem_drop (List.mem_of_mem_take hm))
  exact ⟨z, e.symm⟩
theorem cut_mem {xs : List V} {lo hi : Option Int} {y : V} (h : y ∈ cutV xs lo hi) : y ∈ xs := by
  unfold cutV at h
  exact List.mem_of_mem_drop (List.mem_of_mem_take h)
/-- the while's test: where it is true, fewer than 60 turns are done -/
theorem tst {σ : L2.St} {H : Hp} {Q : Bool → Hp → Prop} {b : Bool} {z : Int} {t : Nat} (h3 : σ[3]? = some (some (V.bl b))) (h5 : σ[5]? = some (some (V.int z))) (h6 : σ[6]? = some (some (V.int (t : Int))))
    (h : ∀ c : Bool, (c = true → t < 60) → Q c H) :
    tOr (tTest (tOp rEq (tVar 6) (tC (.int 0)))) (tAnd (tB (tVar 3)) (tAnd (tTest (tOp (rI0 fun i j => .bl (decide (j < i))) (tVar 5) (tC (.int 0)))) (tTest (tOp (rI0 fun i j => .bl (decide (i < j))) (tVar 6) (tC (.int 60)))))) σ H Q := by
  refine ⟨_, h6, rfl, _, rfl, ?_⟩
  refine ite2 (fun c0 => ?_) (fun _ => ?_)
  · have c0 := V.int.inj (of_decide_eq_true c0)
    exact h true fun _ => by omega
  · refine ⟨_, h3, _, rfl, ?_⟩
    refine ite2 (fun _ => ?_) (fun _ => h false fun z => by cases z)
    refine ⟨_, h5, _, _, rfl, rfl, _, rfl, ?_⟩
    refine ite2 (fun _ => ?_) (fun _ => h false fun z => by cases z)
    refine ⟨_, h6, _, _, rfl, rfl, _, rfl, ?_⟩
    exact h _ fun c1 => by
      have c1 := of_decide_eq_true c1
      omega
theorem ok_deeds {f C : Addr} {fd : FuncData} (F : Fun K "_law_deeds_by" "_law_deeds_by" sDeeds f fd) (T : Txt K mg C) (Dc : Df P w K mg base "_law_cell_at" 1 ["_law_script", "_law_k"] (spCell K)) (Dm : Df P w K mg base "_law_mix" 1 ["_law_cell", "_law_factor", "_law_prime"] spMix) :
    FnOk P w K mg base CX0 2 f fd ["_law_script", "_law_many"] (spDeeds K) := by
  obtain ⟨fC, fdC, GC, bC, mC, kC⟩ := Dc
  obtain ⟨fM, fdM, GM, bM, mM, kM⟩ := Dm
  refine F.ok scDeeds (fun vs H Q E h => ?_) (fun cdv A outer s H vs Q E hr h => ?_)
  · obtain ⟨a, ns, m, rfl, _⟩ := h
    rfl
  · obtain ⟨a, ns, m, rfl, hS, hlen, m0, m60, k⟩ := h
    have nd := scDeeds.nd
    refine ⟨_, pss_cons (ps_set (i := 2) nd rfl (Or.inl rfl) (pe_lst pa_nil))
      (pss_cons (ps_set (i := 3) nd rfl (Or.inl rfl) (pe_cmpR op_eq (pe_op op_mod (pe_call GC hr (by rfl) mC kC bC .nil pass0 (pa_cons (pv 0) (pa_cons pe_int pa_nil))) pe_int) pe_int (nomark _)))
      (pss_cons (ps_for PassesOwn.never rfl (pi_list (pe_slice sl_list (pv 0) (po_some pe_int) po_none)) (pg_name (i := 4) nd rfl (Or.inl rfl))
        (pss_cons (ps_set (i := 5) nd rfl (Or.inl rfl) (pe_callB (call_max2 rfl) (by rfl) T.max (by decide +kernel) (pa_cons (pv 4) (pa_cons (pe_un un_neg (pv 4)) pa_nil))))
        (C8.pss_cut (ps_if (pt_not (pt_val (pv 3))) (pss_one (ps_set (i := 5) nd rfl (Or.inl rfl) (pe_call GM hr (by rfl) mM kM bM .nil pass0 (pa_cons (pe_op op_add (pe_call GM hr (by rfl) mM kM bM .nil pass0 (pa_cons (pv 4) (pa_cons pe_int (pa_cons pe_int pa_nil)))) pe_int) (pa_cons pe_int (pa_cons pe_int pa_nil)))))) pss_nil)
        (pss_cons (ps_set (i := 6) nd rfl (Or.inl rfl) pe_int)
        (pss_one (ps_while PassesOwn.never (PW.pt (pw_or (pt_cmpR op_eq (pv 6) pe_int (nomark _)) (pw_or1 (PW.pt (pw_and (pt_val (pv 3)) (pw_and (pt_cmpR op_gt (pv 5) pe_int (nomark _)) (pw_and1 (pt_cmpR op_lt (pv 6) pe_int (nomark _)))))))))
          (pss_cons (ps_set (i := 7) nd rfl (Or.inl rfl) (pe_op op_sub (pe_op op_mod (pe_op op_fdiv (pv 5) pe_int) (pe_op op_add (pv 1) pe_int)) pe_int))
          (pss_cons (ps_expr (pe_bm PySem.F.plainAttrs_list PySem.F.slot_list_append PySem.F.type_list_append mt_append (pv 2)
              (pa_cons (pe_tup (pa_cons (pe_op op_mod (pv 5) pe_int) (pa_cons (pv 7) (pa_cons (pe_op op_mod (pe_op op_fdiv (pe_op op_fdiv (pv 5) pe_int) (pe_op op_add (pv 1) pe_int)) pe_int) pa_nil)))) pa_nil)))
          (pss_cons (ps_set (i := 5) nd rfl (Or.inl rfl) (pe_op op_fdiv (pe_op op_fdiv (pe_op op_fdiv (pv 5) pe_int) (pe_op op_add (pv 1) pe_int)) pe_int))
          (pss_one (ps_aug (i := 6) nd rfl (Or.inl rfl) pe_int ip_add)))))))))))
      (pss_one (ps_ret (pe_slice sl_list (pv 2) po_none (po_some pe_int)))))), ?_⟩
    -- deeds = []
    refine ⟨Nat.zero_le _, fun l hl => ?_⟩
    -- digits
    have s0 : Same H (upd H l (.lst [])) := same_new hl
    refine ⟨_, rfl, a, ns, rfl, s0.seq hS, fun z0 => ⟨_, _, rfl, rfl, by show (0 : Int) < 2; decide, rfl, ?_⟩⟩
    generalize decide (V.int (z0 % 2) = V.int 0) = b
    -- for cell in script[1:]
    refine ⟨_, rfl, _, rfl, a, _, rfl, s0.seq hS, fun y hy => ⟨y, rfl, ⟨_, SqL.of upd_same⟩, ?_⟩⟩
    have hlx : (cutV (ns.map V.int) (some 1) none).length ≤ 63 := Nat.le_trans (cutV_length _ _ _) (by rw [List.length_map]; exact hlen)
    have hx : ∀ (i : Nat) (v : V), (cutV (ns.map V.int) (some 1) none)[i]? = some v → ∃ z, v = V.int z := fun i v h => cut_ints h
    have ly : l ≠ y := ne_of_none (show (upd H l (.lst [])) l = some _ from upd_same) hy
    have hy0 : H y = none := s0.free hy
    generalize cutV (ns.map V.int) (some 1) none = xs at hlx hx
    refine for_list (K := K) (a := y) (xs := xs) (fun i σ H' => ∃ (ts : List V) (v4 v5 v6 v7 : Option V), σ = [some (.ref a), some (.int m), some (.ref l), some (.bl b), v4, v5, v6, v7] ∧
        Same H H' ∧ H' y = some (.lst xs) ∧ H' l = some (.lst ts) ∧ ts.length ≤ 60 * i ∧ Deeds H' ts)
      ⟨[], none, none, none, none, rfl, s0.trans (same_new hy), upd_same, by rw [upd_ne ly]; exact upd_same, Nat.zero_le _, fun t ht => by cases ht⟩ (fun i σ H' _ ⟨_, _, _, _, _, _, _, h, _⟩ => SqL.of h) ?_ ?_
    · rintro i v σ H' hi ⟨ts, v4, v5, v6, v7, rfl, sm, hY, hL, hts, hD⟩
      obtain ⟨z, rfl⟩ := hx i v hi
      have hi63 : i < 63 := by
        have := (List.getElem?_eq_some_iff.mp hi).1
        omega
      -- left = max(cell, -cell)
      refine ⟨_, rfl, _, rfl, _, rfl, _, _, rfl, ?_⟩
      -- if not digits
      refine ⟨fun σ H2 => H2 = H' ∧ ∃ z5 : Int, σ = [some (.ref a), some (.int m), some (.ref l), some (.bl b), some (.int z), some (.int z5), v6, v7], ?_, ?_⟩
      · refine ⟨_, rfl, b, rfl, ?_⟩
        refine ite2 (fun _ => ?_) (fun _ => ?_)
        · refine ⟨_, rfl, _, _, _, rfl, ⟨by decide, by decide⟩, by decide, fun z1 => ⟨_, _, rfl, rfl, _, _, _, rfl, ⟨by decide, by decide⟩, by decide, fun z2 => ?_⟩⟩
          exact ⟨rfl, z2, rfl⟩
        · exact ⟨rfl, _, rfl⟩
      · rintro σ H2 ⟨rfl, z5, rfl⟩
        -- turns = 0; while
        refine ⟨fun μ σ H2 => ∃ (ts : List V) (z5 : Int) (t : Nat) (v7 : Option V), σ = [some (.ref a), some (.int m), some (.ref l), some (.bl b), some (.int z), some (.int z5), some (.int (t : Int)), v7] ∧
            Same H H2 ∧ H2 y = some (.lst xs) ∧ H2 l = some (.lst ts) ∧ ts.length ≤ 60 * i + t ∧ t ≤ 60 ∧ Deeds H2 ts ∧ μ = 60 - t,
          ⟨60, ts, z5, 0, v7, rfl, sm, hY, hL, hts, by omega, hD, rfl⟩, ?_⟩
        rintro μ σ H2 ⟨ts, z5, t, v7, rfl, sm, hY, hL, hts, ht, hD, rfl⟩
        refine tst rfl rfl rfl fun c hc => ?_
        cases c with
        | false =>
          refine iteF ?_
          exact ⟨ts, _, _, _, _, rfl, sm, hY, hL, by omega, hD⟩
        | true =>
          have hc := hc rfl
          refine iteT ?_
          refine ⟨fun σ H2 => ∃ (ts : List V) (z5 : Int) (v7 : Option V), σ = [some (.ref a), some (.int m), some (.ref l), some (.bl b), some (.int z), some (.int z5), some (.int ((t + 1 : Nat) : Int)), v7] ∧
              Same H H2 ∧ H2 y = some (.lst xs) ∧ H2 l = some (.lst ts) ∧ ts.length ≤ 60 * i + (t + 1) ∧ Deeds H2 ts, ?_, ?_⟩
          · rintro σ H2 ⟨ts, z5, v7, rfl, sm, hY, hL, hts, hD⟩
            exact ⟨60 - (t + 1), by omega, ts, z5, t + 1, v7, rfl, sm, hY, hL, hts, by omega, hD, rfl⟩
          -- page = left // 7 % (many + 3) - 1
          refine ⟨_, rfl, _, _, rfl, rfl, ⟨by decide, by decide⟩, _, rfl, _, _, rfl, rfl, _, _, rfl, rfl, by show (0 : Int) < m + 3; omega, _, _, rfl, rfl, ?_⟩
          -- deeds.append(..)
          refine ⟨_, rfl, .inl ⟨rfl, _, SqL.of hL⟩, _, rfl, _, _, rfl, rfl, by show (0 : Int) < 7; decide, _, rfl, _, rfl, _, _, rfl, rfl, ⟨by decide, by decide⟩, _, rfl, _, _, rfl, rfl, _, _, rfl, rfl, ⟨by show (0 : Int) < m + 3; omega, by show m + 3 < 1073741824; omega⟩,
            _, _, rfl, rfl, by show (0 : Int) < 256; decide, by show 3 ≤ sizeLine; decide, fun x hx => ?_⟩
          have lx : l ≠ x := ne_of_none hL hx
          refine ⟨l, ts, .ref x, rfl, rfl, by rw [upd_ne lx]; exact hL, ?_, ?_⟩
          · have : (4000 : Nat) < sizeLine := by decide
            omega
          -- left = ..
          refine ⟨_, rfl, _, _, rfl, rfl, ⟨by decide, by decide⟩, _, rfl, _, _, rfl, rfl, _, _, rfl, rfl, ⟨by show (0 : Int) < m + 3; omega, by show m + 3 < 1073741824; omega⟩, _, _, rfl, rfl, ⟨by decide, by decide⟩, ?_⟩
          -- turns += 1
          refine ⟨_, rfl, _, _, rfl, rfl, ?_⟩
          have sx := same_new (o := .tup [.int (z5 % 7), .int (z5 / 7 % (m + 3) - 1), .int (z5 / 7 / (m + 3) % 256)]) hx
          have hxl : H l = none := hl
          refine ⟨ts ++ [.ref x], _, _, rfl, fun c o q => ?_, ?_, upd_same, by rw [List.length_append, List.length_singleton]; omega, ?_⟩
          · rw [upd_ne (ne_of_none q hl)]
            exact sx _ _ (sm _ _ q)
          · rw [upd_ne ly.symm]
            exact sx _ _ hY
          · intro u hu
            rcases List.mem_append.mp hu with hu | hu
            · obtain ⟨x', i1, j1, k1, e, q⟩ := hD u hu
              refine ⟨x', i1, j1, k1, e, ?_⟩
              rw [upd_ne (ne_of q hL (by intro z; cases z))]
              exact sx _ _ q
            · have hu := List.mem_singleton.mp hu
              exact ⟨x, _, _, _, hu, (upd_ne lx.symm).trans upd_same⟩
    · rintro σ H' ⟨ts, v4, v5, v6, v7, rfl, sm, hY, hL, hts, hD⟩
      -- return deeds[:300]
      refine ⟨_, rfl, _, rfl, l, ts, rfl, SqL.of hL, fun q hq => ?_⟩
      have sq := same_new (o := .lst (cutV ts none (some 300))) hq
      refine k q _ _ (sm.trans sq) (sm.free hq) upd_same ?_ fun u hu => hD.same sq u (cut_mem hu)
      · unfold cutV
        rw [List.length_take]
        have e1 : HT.sIx ts.length ts.length (some 300) = min 300 ts.length := HT.sIx_nat _ _ 300
        omega
end
end Own

/-! The walk of _law_loosed and of the law. -/
namespace Own
open PySem L2
/-- a page's number as a value -/
def vn (k : Nat) : V := V.int (k : Int)
def spTakenN (C : Addr) : Sp := spTaken C
theorem vn_ints (L : List Nat) : (L.map fun k : Nat => (k : Int)).map V.int = L.map fun k : Nat => V.int (k : Int) := by
  rw [List.map_map]
  rfl
theorem inV_nats (k : Nat) (L : List Nat) : inV (.int (k : Int)) (L.map fun k : Nat => V.int (k : Int)) = decide (k ∈ L) := by
  rw [← vn_ints, inV_ints]
  by_cases h : k ∈ L
  · rw [decide_eq_true h, decide_eq_true (List.mem_map.mpr ⟨k, h, rfl⟩)]
  · rw [decide_eq_false h, decide_eq_false]
    intro q
    obtain ⟨m, hm, e⟩ := List.mem_map.mp q
    have e' : m = k := by omega
    exact h (e' ▸ hm)
theorem flat_nats (L : List Nat) : (L.map fun k : Nat => V.int (k : Int)).all flatV = true := by
  rw [← vn_ints]
  exact flat_ints _
theorem set_self {os : List Int} {j : Nat} (h : j < os.length) : os.set j (os.getD j 0) = os := List.ext_getElem? fun k => by
  rw [List.getElem?_set]
  by_cases e : j = k
  · subst e
    rw [if_pos rfl, if_pos h, getD_some h]
  · rw [if_neg e]
theorem first_one {os : List Int} {i j : Nat} (hi : os[i]? = some 0) (hj : os[j]? = some 0) (ni : ∀ m, m < i → os[m]? ≠ some 0) (nj : ∀ m, m < j → os[m]? ≠ some 0) : i = j := by
  rcases Nat.lt_trichotomy i j with h | h | h
  · exact absurd hi (nj i h)
  · exact h
  · exact absurd hj (ni j h)
theorem nat_at {L : List Nat} {i : Nat} {y : V} (h : (L.map fun k : Nat => V.int (k : Int))[i]? = some y) : ∃ j, L[i]? = some j ∧ y = V.int (j : Int) := by
  rw [List.getElem?_map] at h
  cases e : L[i]? with
  | none =>
    rw [e] at h
    cases h
  | some j =>
    rw [e] at h
    exact ⟨j, rfl, (Option.some.inj h).symm⟩
theorem StoreAt.off {C p d e : Addr} {H : Hp} {os : List Int} {D : Addr} {o : HO} (S : StoreAt C H p d e os) (h1 : p ≠ D) (h2 : d ≠ D) (h3 : e ≠ D) : StoreAt C (upd H D o) p d e os := by
  obtain ⟨⟨dx, a⟩, b, ⟨cs, c, l⟩, de, sz⟩ := S
  exact ⟨⟨dx, by rw [upd_ne h1]; exact a⟩, by rw [upd_ne h2]; exact b, ⟨cs, by rw [upd_ne h3]; exact c, l⟩, de, sz⟩
theorem StoreAt.apart {C p d e : Addr} {H : Hp} {os : List Int} {D : Addr} (S : StoreAt C H p d e os) (h : H D = none) : p ≠ D ∧ d ≠ D ∧ e ≠ D := by
  obtain ⟨⟨dx, a⟩, b, ⟨cs, c, l⟩, de, sz⟩ := S
  exact ⟨ne_of_none a h, ne_of_none b h, ne_of_none c h⟩
/-- what holds while the free pages are taken one by one into the list at D: H0 the heap ahead of that list -/
def Tak (C p d e : Addr) (os : List Int) (H0 : Hp) (D : Addr) (i : Nat) (H : Hp) : Prop :=
  ∃ os' : List Int, StoreAt C H p d e os' ∧ Chg os os' ((due os).take i) 1 ∧ H D = some (.lst (((due os).take i).map fun k : Nat => V.int (k : Int))) ∧ Keep p d e H0 H
theorem Tak.start {C p d e : Addr} {os : List Int} {H0 : Hp} {D : Addr} (S : StoreAt C H0 p d e os) (hD : H0 D = none) : Tak C p d e os H0 D 0 (upd H0 D (.lst [])) :=
  ⟨os, S.same (same_new hD), Chg.nil, upd_same, Keep.same (same_new hD)⟩
theorem Tak.turn {C p d e : Addr} {os : List Int} {H0 H : Hp} {D : Addr} {i j : Nat} {E : XK} (S0 : StoreAt C H0 p d e os) (hD : H0 D = none) (hn : ∀ x ∈ os, 0 ≤ x) (hj : (due os)[i]? = some j) (T : Tak C p d e os H0 D i H) :
    spTake C [.ref p] H (fun y H4 => ∃ acc, H4 D = some (.lst acc) ∧ acc.length < sizeLine ∧ Tak C p d e os H0 D (i + 1) (upd H4 D (.lst (acc ++ [y])))) E := by
  obtain ⟨os', S, c, hA, K⟩ := T
  obtain ⟨n1, n2, n3⟩ := S0.apart hD
  obtain ⟨f1, f2⟩ := first_due hn c hj
  refine ⟨p, d, e, os', rfl, S, fun h0 => absurd (List.mem_of_getElem? f1) h0, fun j' H4 g1 g2 S4 K4 => ?_⟩
  obtain rfl := first_one f1 g1 f2 g2
  refine ⟨_, K4 D _ hA n1.symm n2.symm n3.symm, ?_, os'.set j 1, S4.off n1 n2 n3, c.step hj, ?_, fun b o q h1 h2 h3 => ?_⟩
  · rw [List.length_map]
    have h1 := List.length_take_le' i (due os)
    have h2 := due_len os
    have h3 := S0.sz
    have h4 : (60 : Nat) < sizeLine := by decide
    omega
  · rw [upd_same, take_one hj, List.map_append]
    rfl
  · rw [upd_ne (ne_of_none q hD)]
    exact K4 b o (K b o q h1 h2 h3) h1 h2 h3
def spLaw (K : PySem.W.Frag) : Sp := fun vs H Q _ => ∃ (a : Addr) (ns : List Int), vs = [.ref a] ∧ SqL K H a (ns.map V.int) ∧ ns.length ≤ 63 ∧ ∀ H', Q (.bl true) H'
def menu : List Int := [2, 5, 9, 1, 0, 60, 17, 3]
theorem menu_ok : ∀ j, j < 8 → 0 ≤ menu.getD j 0 ∧ menu.getD j 0 ≤ 60 := by decide
section
variable {P : Program} {w : World} {K : PySem.W.Frag} {mg : Str → Option Value} {base : Heap}
/-! ### _law_loosed -/
theorem scLoosed : FnScope ["_law_store", "_law_many", "_law_page", "_law_owners", "_law_k"] ["_law_store", "_law_many"] (defScope sLoosed) := ⟨rfl, rfl, rfl, by decide +kernel, rfl, by decide +kernel, by decide +kernel⟩
theorem ok_loosed {f C : Addr} {fd : FuncData} (F : Fun K "_law_loosed" "_law_loosed" sLoosed f fd) (T : Txt K mg C) (Dt : Df P w K mg base "_law_taken" 2 ["_law_store", "_law_many"] (spTaken C))
    (Mc : Mt P w K mg base C "count" 1 ["self", "page"] (spCount C)) (Ml : Mt P w K mg base C "less" 3 ["self", "page"] (spStep C fun x => x - 1)) : FnOk P w K mg base CX0 4 f fd ["_law_store", "_law_many"] (spLoosed C) := by
  obtain ⟨fT, fdT, GT, bT, mT, kT⟩ := Dt
  obtain ⟨fc, fdc, Gc, bc, mc⟩ := Mc
  obtain ⟨fl, fdl, Gl, bl, ml⟩ := Ml
  refine F.ok scLoosed (fun vs H Q E h => ?_) (fun cdv A outer s H vs Q E hr h => ?_)
  · obtain ⟨p, d, e, os, rfl, _⟩ := h
    rfl
  · obtain ⟨p, d, e, os, rfl, S, hw, k⟩ := h
    have nd := scLoosed.nd
    have hr1 : Room 1 _ := hr.mono (by decide)
    have hr2 : Room 2 _ := hr.mono (by decide)
    refine ⟨_, pss_cons (ps_for PassesOwn.never rfl (pi_list (pe_call GT hr2 (by rfl) mT kT bT .nil pass0 (pa_cons (pv 0) (pa_cons (pv 1) pa_nil)))) (pg_name (i := 2) nd rfl (Or.inl rfl))
        (pss_cons (ps_set (i := 3) nd rfl (Or.inl rfl) (pe_meth (pv 0) T.cl mc Gc hr1 bc .nil pass0 (pa_cons (pv 2) pa_nil)))
        (pss_cons (ps_for PassesOwn.never rfl (pi_range1 (by rfl) T.range (pa_cons (pv 3) pa_nil)) (pg_name (i := 4) nd rfl (Or.inl rfl))
          (pss_cons (ps_if (pt_cmpR op_ne (pe_meth (pv 0) T.cl mc Gc hr1 bc .nil pass0 (pa_cons (pv 2) pa_nil)) (pe_op op_sub (pv 3) (pv 4)) (nomark _)) (pss_one (ps_ret pe_bl)) pss_nil)
          (pss_one (ps_expr (pe_meth (pv 0) T.cl ml Gl hr bl .nil pass0 (pa_cons (pv 2) pa_nil))))))
        (pss_one (ps_if (pt_cmpR op_ne (pe_meth (pv 0) T.cl mc Gc hr1 bc .nil pass0 (pa_cons (pv 2) pa_nil)) pe_int (nomark _)) (pss_one (ps_ret pe_bl)) pss_nil)))))
      (pss_one (ps_ret pe_bl)), ?_⟩
    have noc : ∀ d e : Addr, (flds d e).lookup ("count" : Str) = none := fun _ _ => flds_no _ _ (by decide +kernel) (by decide +kernel)
    have nol : ∀ d e : Addr, (flds d e).lookup ("less" : Str) = none := fun _ _ => flds_no _ _ (by decide +kernel) (by decide +kernel)
    -- for page in _law_taken(store, many)
    refine ⟨_, rfl, _, rfl, p, d, e, os, rfl, S, fun l H1 s1 hl hL => ⟨l, rfl, ⟨_, SqL.of hL⟩, ?_⟩⟩
    obtain ⟨n1, n2, n3⟩ := S.apart hl
    refine for_list (K := K) (a := l) (xs := (taken os).map fun k : Nat => V.int (k : Int)) (fun i σ H' => ∃ (os' : List Int) (v2 v3 v4 : Option V), σ = [some (.ref p), some (.int (os.length : Int)), v2, v3, v4] ∧
        StoreAt C H' p d e os' ∧ Chg os os' ((taken os).take i) 0 ∧ Keep p d e H1 H') ⟨os, none, none, none, rfl, S.same s1, Chg.nil, Keep.refl⟩
      (fun i σ H' _ ⟨_, _, _, _, _, _, _, K'⟩ => SqL.of (K' l _ hL n1.symm n2.symm n3.symm)) ?_ ?_
    · rintro i y σ H' hi ⟨os', v2, v3, v4, rfl, S', c, K'⟩
      obtain ⟨j, hj, rfl⟩ := nat_at hi
      obtain ⟨hjl, hjp⟩ := mem_taken.mp (List.mem_of_getElem? hj)
      have hjl' : j < os'.length := by rw [c.len]; exact hjl
      have hg : os'.getD j 0 = os.getD j 0 := by rw [c.at_ j hjl, if_neg (not_before (taken_rising os) hj)]
      have hwj := hw _ (getD_mem hjl)
      obtain ⟨dx, h1⟩ := S'.ob
      -- owners = store.count(page)
      refine ⟨_, rfl, p, dx, _, rfl, h1, noc _ _, _, rfl, p, d, e, os', _, rfl, S', ?_⟩
      rw [cnt_nat hjl', hg]
      generalize hn : os.getD j 0 = n at hjp hwj hg
      -- for k in range(owners)
      refine ⟨_, rfl, n, rfl, by omega, by omega, ?_⟩
      refine for_range (lo := 0) (n := n.toNat) (fun r σ H2 => ∃ v4 : Option V, σ = [some (.ref p), some (.int (os.length : Int)), some (.int (j : Int)), some (.int n), v4] ∧
          StoreAt C H2 p d e (os'.set j (n - (r : Int))) ∧ Keep p d e H1 H2) ⟨v4, rfl, ?_, K'⟩ ?_ ?_
      · have e0 : n - ((0 : Nat) : Int) = os'.getD j 0 := by rw [hg]; omega
        rw [e0, set_self hjl']
        exact S'
      · rintro r σ H2 hr' ⟨v4, rfl, S2, K2⟩
        have hjs : j < (os'.set j (n - (r : Int))).length := by rw [List.length_set]; exact hjl'
        have hgs : (os'.set j (n - (r : Int))).getD j 0 = n - (r : Int) := by rw [getD_set hjl', if_pos rfl]
        obtain ⟨dx2, h2⟩ := S2.ob
        refine ⟨_, rfl, p, dx2, _, rfl, h2, noc _ _, _, rfl, p, d, e, _, _, rfl, S2, _, rfl, _, rfl, _, _, rfl, rfl, rfl, _, rfl, ?_⟩
        refine iteNS ?_ ?_
        · rw [cnt_nat hjs, hgs]
          exact congrArg V.int (by omega)
        refine ⟨_, rfl, p, dx2, _, rfl, h2, nol _ _, _, rfl, p, d, e, _, j, rfl, S2, hjs, by rw [hgs]; omega, fun H3 S3 K3 => ?_⟩
        have S3 : StoreAt C H3 p d e ((os'.set j (n - (r : Int))).set j ((os'.set j (n - (r : Int))).getD j 0 - 1)) := S3
        rw [hgs, List.set_set] at S3
        have er : n - (r : Int) - 1 = n - ((r + 1 : Nat) : Int) := by omega
        rw [er] at S3
        exact ⟨_, rfl, S3, K2.trans K3⟩
      · rintro σ H2 ⟨v4, rfl, S2, K2⟩
        have er : n - ((n.toNat : Nat) : Int) = 0 := by omega
        rw [er] at S2
        have hjs : j < (os'.set j 0).length := by rw [List.length_set]; exact hjl'
        have hgs : (os'.set j 0).getD j 0 = 0 := by rw [getD_set hjl', if_pos rfl]
        obtain ⟨dx2, h2⟩ := S2.ob
        refine ⟨_, rfl, p, dx2, _, rfl, h2, noc _ _, _, rfl, p, d, e, _, _, rfl, S2, rfl, _, rfl, ?_⟩
        refine iteNS ?_ ?_
        · rw [cnt_nat hjs, hgs]
        exact ⟨_, _, _, _, rfl, S2, c.step hj, K2⟩
    · rintro σ H' ⟨os', v2, v3, v4, rfl, S', c, K'⟩
      rw [List.length_map, List.take_length] at c
      have ee := emptied hw.nn c
      subst ee
      exact k H' S' ((Keep.same s1).trans K')
/-! ### the law -/
theorem scLaw : FnScope ["_law_script", "_law_many", "_law_store", "_law_what", "_law_page", "_law_value", "_law_taken_here", "_law_due", "_law_found"] ["_law_script"] (defScope sLaw) := ⟨rfl, rfl, rfl, by decide +kernel, rfl, by decide +kernel, by decide +kernel⟩
theorem ok_law {f C fI : Addr} {fd fdI : FuncData} (F : Fun K "law" "law" sLaw f fd) (T : Txt K mg C) (M : Mk K C fI) (GI : FnOk P w K mg base CX0 1 fI fdI ["self", "many"] (spInit C)) (bI : Binds K fdI ["self", "many"] [])
    (Mt_ : Mt P w K mg base C "take" 1 ["self"] (spTake C)) (Mm : Mt P w K mg base C "more" 3 ["self", "page"] (spStep C fun x => x + 1)) (Ml : Mt P w K mg base C "less" 3 ["self", "page"] (spStep C fun x => x - 1))
    (Mc : Mt P w K mg base C "count" 1 ["self", "page"] (spCount C)) (Mf : Mt P w K mg base C "free" 1 ["self"] (spFree C))
    (DW : Df P w K mg base "_law_whole" 1 ["_law_found"] spWhole) (DC : Df P w K mg base "_law_cell_at" 1 ["_law_script", "_law_k"] (spCell K)) (DN : Df P w K mg base "_law_numbers" 2 ["_law_found", "_law_due"] spNumbers)
    (DD : Df P w K mg base "_law_deeds_by" 2 ["_law_script", "_law_many"] (spDeeds K)) (DT : Df P w K mg base "_law_taken" 2 ["_law_store", "_law_many"] (spTaken C)) (DL : Df P w K mg base "_law_loosed" 4 ["_law_store", "_law_many"] (spLoosed C)) :
    FnOk P w K mg base CX0 5 f fd ["_law_script"] (spLaw K) := by
  obtain ⟨ft, fdt, Gt, bt, mt⟩ := Mt_
  obtain ⟨fm, fdm, Gm, bm, mm⟩ := Mm
  obtain ⟨fl, fdl, Gl, bl, ml⟩ := Ml
  obtain ⟨fc, fdc, Gc, bc, mc⟩ := Mc
  obtain ⟨ff, fdf, Gf, bf, mf⟩ := Mf
  obtain ⟨fW, fdW, GW, bW, mW, kW⟩ := DW
  obtain ⟨fC, fdC, GC, bC, mC, kC⟩ := DC
  obtain ⟨fN, fdN, GN, bN, mN, kN⟩ := DN
  obtain ⟨fD, fdD, GD, bD, mD, kD⟩ := DD
  obtain ⟨fT, fdT, GT, bT, mT, kT⟩ := DT
  obtain ⟨fL, fdL, GL, bL, mL, kL⟩ := DL
  refine F.ok scLaw (fun vs H Q E h => ?_) (fun cdv A outer s H vs Q E hr h => ?_)
  · obtain ⟨a, ns, rfl, _⟩ := h
    rfl
  · obtain ⟨a, ns, rfl, hS, hlen, k⟩ := h
    have nd := scLaw.nd
    have hr1 : Room 1 _ := hr.mono (by decide)
    have hr2 : Room 2 _ := hr.mono (by decide)
    have hr3 : Room 3 _ := hr.mono (by decide)
    refine ⟨_, pss_cons (ps_set (i := 1) nd rfl (Or.inl rfl) (pe_ix ix_list (pe_lst (pa_cons pe_int (pa_cons pe_int (pa_cons pe_int (pa_cons pe_int (pa_cons pe_int (pa_cons pe_int (pa_cons pe_int (pa_cons pe_int pa_nil)))))))))
        (pe_op op_mod (pe_op op_fdiv (pe_call GC hr1 (by rfl) mC kC bC .nil pass0 (pa_cons (pv 0) (pa_cons pe_int pa_nil))) pe_int) pe_int) (fun _ _ => rfl)))
      (pss_cons (ps_set (i := 2) nd rfl (Or.inr rfl) (pe_make M GI hr2 (by rfl) T.mgC bI .nil pass0 (pa_cons (pv 1) pa_nil)))
      (pss_cons (ps_for PassesOwn.never rfl (pi_list (pe_call GD hr2 (by rfl) mD kD bD .nil pass0 (pa_cons (pv 0) (pa_cons (pv 1) pa_nil))))
        (pg_tup rfl (pgs_cons (pg_name (i := 3) nd rfl (Or.inl rfl)) (pgs_cons (pg_name (i := 4) nd rfl (Or.inl rfl)) (pgs_cons (pg_name (i := 5) nd rfl (Or.inl rfl)) pgs_nil))))
        (pss_one (ps_if (pt_cmpR op_lt (pv 3) pe_int (nomark _)) (pss_one (ps_expr (pe_meth0 (pv 2) T.cl mt Gt hr1 bt .nil pass0)))
          (pss_one (ps_if (PW.pt (pw_and (pt_cmpR op_gt (pe_meth (pv 2) T.cl mc Gc hr1 bc .nil pass0 (pa_cons (pv 4) pa_nil)) pe_int (nomark _)) (pw_and1 (pt_cmpR op_lt (pv 3) pe_int (nomark _)))))
            (pss_one (ps_expr (pe_meth (pv 2) T.cl mm Gm hr3 bm .nil pass0 (pa_cons (pv 4) pa_nil))))
            (pss_one (ps_if (pt_cmpR op_gt (pe_meth (pv 2) T.cl mc Gc hr1 bc .nil pass0 (pa_cons (pv 4) pa_nil)) pe_int (nomark _)) (pss_one (ps_expr (pe_meth (pv 2) T.cl ml Gl hr3 bl .nil pass0 (pa_cons (pv 4) pa_nil)))) pss_nil)))))))
      (pss_cons (ps_set (i := 6) nd rfl (Or.inr rfl) (pe_call GT hr2 (by rfl) mT kT bT .nil pass0 (pa_cons (pv 2) (pa_cons (pv 1) pa_nil))))
      (pss_cons (ps_if (PW.pt (pw_or (pt_not (pt_val (pe_call GW hr1 (by rfl) mW kW bW .nil pass0 (pa_cons (pe_meth0 (pv 2) T.cl mf Gf hr1 bf .nil pass0) pa_nil))))
          (pw_or1 (pt_cmpR op_ne (pe_op op_add (pe_meth0 (pv 2) T.cl mf Gf hr1 bf .nil pass0) (pe_callB call_len_seq (by rfl) T.len PySem.boot_len (pa_cons (pv 6) pa_nil))) (pv 1) (nomark _))))) (pss_one (ps_ret pe_bl)) pss_nil)
      (pss_cons (ps_setLc (i := 7) (own := [("_law_page", 4)]) (g := gName 4) rfl nd rfl rfl (sw_true rfl rfl rfl (by decide +kernel)) (pi_range1 (by rfl) T.range (pa_cons (pv 1) pa_nil))
          (blkOk_by (own := [("_law_page", 4)]) (N := ["_law_script", "_law_many", "_law_store", "_law_what", "_law_page", "_law_value", "_law_taken_here", "_law_due", "_law_found"]) (sc := defScope sLaw) (by decide +kernel))
          (fun _ _ _ _ _ => pg_name (i := 4) nd rfl (Or.inl rfl)) (fun _ _ _ _ _ => pts_one (pt_cmpR (r := rIn K true) op_notIn_seq (pv 4) (pv 6) (by rfl))) (fun _ _ _ _ _ => pv 4))
      (pss_cons (ps_setLc (i := 8) (own := [("_law_page", 4)]) (g := gName 4) (tt := tYes) rfl nd rfl rfl (sw_true rfl rfl rfl (by decide +kernel)) (pi_list (pv 7))
          (blkOk_by (own := [("_law_page", 4)]) (N := ["_law_script", "_law_many", "_law_store", "_law_what", "_law_page", "_law_value", "_law_taken_here", "_law_due", "_law_found"]) (sc := defScope sLaw) (by decide +kernel))
          (fun _ _ _ _ _ => pg_name (i := 4) nd rfl (Or.inl rfl)) (fun _ _ _ _ _ => pts_nil) (fun _ _ _ _ _ => pe_meth0 (pv 2) T.cl mt Gt hr1 bt .nil pass0))
      (pss_cons (ps_if (PW.pt (pw_or (pt_not (pt_val (pe_call GN hr2 (by rfl) mN kN bN .nil pass0 (pa_cons (pv 8) (pa_cons (pv 7) pa_nil)))))
          (pw_or (pt_cmpR op_notN (pe_meth0 (pv 2) T.cl mt Gt hr1 bt .nil pass0) pe_non (nomark _)) (pw_or1 (pt_cmpR op_ne (pe_meth0 (pv 2) T.cl mf Gf hr1 bf .nil pass0) pe_int (nomark _)))))) (pss_one (ps_ret pe_bl)) pss_nil)
      (pss_cons (ps_if (PW.pt (pw_or (pt_not (pt_val (pe_call GL hr (by rfl) mL kL bL .nil pass0 (pa_cons (pv 2) (pa_cons (pv 1) pa_nil)))))
          (pw_or1 (pt_cmpR op_ne (pe_meth0 (pv 2) T.cl mf Gf hr1 bf .nil pass0) (pv 1) (nomark _))))) (pss_one (ps_ret pe_bl)) pss_nil)
      (pss_one (ps_ret (pe_cmpR (op_eqD hr.units)
        (pe_lc (own := [("_law_page", 4)]) (g := gName 4) (tt := tYes) rfl nd (pi_range1 (by rfl) T.range (pa_cons (pv 1) pa_nil))
          (blkOk_by (own := [("_law_page", 4)]) (N := ["_law_script", "_law_many", "_law_store", "_law_what", "_law_page", "_law_value", "_law_taken_here", "_law_due", "_law_found"]) (sc := defScope sLaw) (by decide +kernel))
          (fun _ _ _ _ _ => pg_name (i := 4) nd rfl (Or.inl rfl)) (fun _ _ _ _ _ => pts_nil) (fun _ _ _ _ _ => pe_meth0 (pv 2) T.cl mt Gt hr1 bt .nil pass0))
        (pe_listRg rfl (by rfl) T.list (prg_1 (by rfl) T.range (pv 1))) (nomark _)))))))))))), ?_⟩
    have noc : ∀ d e : Addr, (flds d e).lookup ("count" : Str) = none := fun _ _ => flds_no _ _ (by decide +kernel) (by decide +kernel)
    have nol : ∀ d e : Addr, (flds d e).lookup ("less" : Str) = none := fun _ _ => flds_no _ _ (by decide +kernel) (by decide +kernel)
    have nom : ∀ d e : Addr, (flds d e).lookup ("more" : Str) = none := fun _ _ => flds_no _ _ (by decide +kernel) (by decide +kernel)
    have not_ : ∀ d e : Addr, (flds d e).lookup ("take" : Str) = none := fun _ _ => flds_no _ _ (by decide +kernel) (by decide +kernel)
    have nof : ∀ d e : Addr, (flds d e).lookup ("free" : Str) = none := fun _ _ => flds_no _ _ (by decide +kernel) (by decide +kernel)
    -- many = [2, 5, ..][_law_cell_at(script, 0) // 2 % 8]
    refine ⟨by show 8 ≤ sizeLine; decide, fun l0 hl0 => ?_⟩
    have s0 := same_new (o := .lst (menu.map V.int)) hl0
    refine ⟨_, rfl, a, ns, rfl, s0.seq hS, fun z => ?_⟩
    obtain ⟨j0, ej0, hj0⟩ : ∃ j : Nat, z / 2 % 8 = (j : Int) ∧ j < 8 := ⟨(z / 2 % 8).toNat, by omega, by omega⟩
    refine ⟨_, _, rfl, rfl, ⟨by decide, by decide⟩, _, _, rfl, rfl, by show (0 : Int) < 8; decide, l0, menu.map V.int, _, V.int (menu.getD j0 0), rfl, rfl, SqL.of upd_same, at_of ej0 (by rw [List.getElem?_map, getD_some (show j0 < menu.length from hj0)]; rfl), ?_⟩
    obtain ⟨m0, m60⟩ := menu_ok j0 hj0
    generalize menu.getD j0 0 = m at m0 m60
    -- store = Store(many)
    refine ⟨_, rfl, fun x dx nx ndx nex => ⟨x, dx, m, rfl, upd_same, m0, m60, fun d e H1 hd he S kp => ⟨rfl, ?_⟩⟩⟩
    have s1 : Same H H1 := s0.trans (Same.made nx ndx kp)
    -- for what, page, value in _law_deeds_by(script, many)
    refine ⟨_, rfl, _, rfl, a, ns, m, rfl, s1.seq hS, hlen, m0, m60, fun l ts H2 s2 hl hL hts hD => ⟨l, rfl, ⟨_, SqL.of hL⟩, ?_⟩⟩
    obtain ⟨n1, n2, n3⟩ := S.apart hl
    have S2 := S.same s2
    refine for_list (K := K) (a := l) (xs := ts) (fun i σ H' => ∃ (os : List Int) (v3 v4 v5 : Option V), σ = [some (.ref a), some (.int m), some (.ref x), v3, v4, v5, none, none, none] ∧
        StoreAt C H' x d e os ∧ (os.length : Int) = m ∧ Within os (i : Int) ∧ Keep x d e H2 H') ⟨_, none, none, none, rfl, S2, by rw [List.length_replicate]; omega, within_free _, Keep.refl⟩
      (fun i σ H' _ ⟨_, _, _, _, _, _, _, _, K'⟩ => SqL.of (K' l _ hL n1.symm n2.symm n3.symm)) ?_ ?_
    · rintro i y σ H' hi ⟨os, v3, v4, v5, rfl, S', hm, hw, K'⟩
      obtain ⟨t, w1, w2, w3, rfl, ht⟩ := hD y (List.mem_of_getElem? hi)
      have ht' : H' t = some (.tup [.int w1, .int w2, .int w3]) := by
        obtain ⟨⟨_, a1⟩, a2, ⟨_, a3, _⟩, _, _⟩ := id S2
        exact K' t _ ht (ne_of ht a1 (by intro z; cases z)) (ne_of ht a2 (by intro z; cases z)) (ne_of ht a3 (by intro z; cases z))
      obtain ⟨dx', h1⟩ := S'.ob
      have hw1 : Within os ((i + 1 : Nat) : Int) := hw.mono (by omega)
      refine ⟨t, _, rfl, SqT.of ht', rfl, _, _, rfl, _, _, rfl, _, _, rfl, rfl, ?_⟩
      -- if what < 3: store.take()
      refine ⟨_, rfl, _, _, rfl, rfl, _, rfl, ?_⟩
      refine ite2 (fun _ => ?_) (fun _ => ?_)
      · refine ⟨_, rfl, x, dx', _, rfl, h1, not_ _ _, x, d, e, os, rfl, S', fun _ => ?_, fun j H3 _ _ S3 K3 => ?_⟩
        · exact ⟨os, _, _, _, rfl, S', hm, hw1, K'⟩
        · exact ⟨_, _, _, _, rfl, S3, by rw [List.length_set]; exact hm, hw1.set (by decide) (by omega), K'.trans K3⟩
      · -- elif store.count(page) > 0 and what < 5: store.more(page)
        refine ⟨_, rfl, x, dx', _, rfl, h1, noc _ _, _, rfl, x, d, e, os, _, rfl, S', _, _, rfl, rfl, _, rfl, ?_⟩
        refine ite2 (fun c0 => ?_) (fun c0 => ?_)
        · have c0 := of_decide_eq_true c0
          obtain ⟨j, rfl, hj, ec⟩ := cnt_pos (show cnt os w2 ≠ 0 by omega)
          have hwj := hw _ (getD_mem hj)
          refine ⟨_, rfl, _, _, rfl, rfl, _, rfl, ?_⟩
          refine ite2 (fun _ => ?_) (fun _ => ?_)
          · refine ⟨_, rfl, x, dx', _, rfl, h1, nom _ _, _, rfl, x, d, e, os, j, rfl, S', hj, by omega, fun H3 S3 K3 => ?_⟩
            exact ⟨_, _, _, _, rfl, S3, by rw [List.length_set]; exact hm, hw1.set (by show 0 ≤ os.getD j 0 + 1; omega) (by show os.getD j 0 + 1 ≤ ((i + 1 : Nat) : Int); omega), K'.trans K3⟩
          · refine ⟨_, rfl, x, dx', _, rfl, h1, noc _ _, _, rfl, x, d, e, os, _, rfl, S', _, _, rfl, rfl, _, rfl, ?_⟩
            refine ite2 (fun _ => ?_) (fun _ => ?_)
            · refine ⟨_, rfl, x, dx', _, rfl, h1, nol _ _, _, rfl, x, d, e, os, j, rfl, S', hj, by omega, fun H3 S3 K3 => ?_⟩
              exact ⟨_, _, _, _, rfl, S3, by rw [List.length_set]; exact hm, hw1.set (by show 0 ≤ os.getD j 0 - 1; omega) (by show os.getD j 0 - 1 ≤ ((i + 1 : Nat) : Int); omega), K'.trans K3⟩
            · exact ⟨os, _, _, _, rfl, S', hm, hw1, K'⟩
        · refine ite2 (fun z => by cases z) (fun _ => ?_)
          refine ⟨_, rfl, x, dx', _, rfl, h1, noc _ _, _, rfl, x, d, e, os, _, rfl, S', _, _, rfl, rfl, _, rfl, ?_⟩
          refine ite2 (fun z => absurd z c0) (fun _ => ?_)
          exact ⟨os, _, _, _, rfl, S', hm, hw1, K'⟩
    · rintro σ H3 ⟨os, v3, v4, v5, rfl, S3, hm, hw, K3⟩
      subst hm
      have hw3 : Within os 300 := hw.mono (by omega)
      have hsz := S3.sz
      obtain ⟨dx3, h3⟩ := S3.ob
      -- taken_here = _law_taken(store, many)
      refine ⟨_, rfl, _, rfl, x, d, e, os, rfl, S3, fun lt H4 s4 hlt hLt => ?_⟩
      have S4 := S3.same s4
      obtain ⟨dx4, h4⟩ := S4.ob
      -- if not _law_whole(store.free()) or store.free() + len(taken_here) != many: return False
      refine ⟨_, rfl, x, dx4, _, rfl, h4, nof _ _, x, d, e, os, rfl, S4, _, rfl, _, rfl, ?_⟩
      refine iteF ?_
      refine ⟨_, rfl, x, dx4, _, rfl, h4, nof _ _, x, d, e, os, rfl, S4, _, rfl, lt, _, rfl, .inl (SqL.of hLt), _, _, rfl, rfl, _, rfl, rfl, _, rfl, ?_⟩
      refine iteNS ?_ ?_
      · rw [List.length_map]
        have := count_taken os hw3.nn
        exact congrArg V.int (by omega)
      -- due = [page for page in range(many) if page not in taken_here]
      refine ⟨_, rfl, _, rfl, by omega, by omega, fun D hD => ?_⟩
      rw [Int.toNat_natCast]
      refine lc_range (lo := 0) (n := os.length) (fun i H' => Same H4 H' ∧ H' D = some (.lst (((List.range i).filter fun k => decide (¬ 0 < os.getD k 0)).map fun k : Nat => V.int (k : Int)))) ⟨same_new hD, upd_same⟩ ?_ ?_
      · rintro i H' hi ⟨sm, hA⟩
        refine ⟨rfl, _, rfl, _, rfl, lt, _, rfl, .inl (SqL.of (sm _ _ hLt)), rfl, flat_nats _, _, rfl, ?_⟩
        have ei : (0 : Int) + (i : Int) = (i : Int) := by omega
        rw [if_pos rfl, ei, inV_nats, filter_turn]
        by_cases h0 : 0 < os.getD i 0
        · rw [decide_eq_true (mem_taken.mpr ⟨hi, h0⟩)]
          refine iteF ?_
          refine ⟨sm, ?_⟩
          rw [if_neg (by simpa using h0), List.append_nil]
          exact hA
        · rw [decide_eq_false (fun z => h0 (mem_taken.mp z).2)]
          refine iteT ?_
          refine ⟨_, rfl, _, hA, ?_, ?_, ?_⟩
          · have h1 := List.length_filter_le (fun k => decide (¬ 0 < os.getD k 0)) (List.range i)
            rw [List.length_range] at h1
            rw [List.length_map]
            have : (60 : Nat) < sizeLine := by decide
            omega
          · intro b o z
            rw [upd_ne (ne_of_none z hD)]
            exact sm _ _ z
          · rw [upd_same, if_pos (by simpa using h0), List.map_append]
            rfl
      · rintro H5 ⟨s5, hA5⟩
        have hA5 : H5 D = some (.lst ((due os).map fun k : Nat => V.int (k : Int))) := hA5
        have S5 := S4.same s5
        have nD := S4.apart hD
        -- found = [store.take() for page in due]
        refine ⟨_, rfl, D, rfl, ⟨_, SqL.of hA5⟩, fun D8 hD8 => ?_⟩
        have nD8 := S5.apart hD8
        have D8D : D ≠ D8 := ne_of_none hA5 hD8
        refine lc_list (K := K) (a := D) (xs := (due os).map fun k : Nat => V.int (k : Int)) (fun i H' => Tak C x d e os H5 D8 i H') (Tak.start S5 hD8)
          (fun i H' _ ⟨_, _, _, _, K'⟩ => SqL.of (K' D _ hA5 nD.1.symm nD.2.1.symm nD.2.2.symm)) ?_ ?_
        · rintro i y H' hi tk
          obtain ⟨j, hj, rfl⟩ := nat_at hi
          obtain ⟨os', S', _, _, _⟩ := id tk
          obtain ⟨dx', h'⟩ := S'.ob
          refine ⟨rfl, ?_⟩
          exact ⟨_, rfl, x, dx', _, rfl, h', not_ _ _, Tak.turn (E := E0) S5 hD8 hw3.nn hj tk⟩
        · rintro H6 ⟨os6, S6, c6, hA6, K6⟩
          rw [List.length_map, List.take_length] at c6 hA6
          have hA5' := K6 D _ hA5 nD.1.symm nD.2.1.symm nD.2.2.symm
          obtain ⟨dx6, h6⟩ := S6.ob
          have h0 := full c6
          -- if not _law_numbers(found, due) or store.take() is not None or store.free() != 0: return False
          refine ⟨_, rfl, _, rfl, D8, D, (due os).map fun k : Nat => (k : Int), rfl, by rw [vn_ints]; exact hA6, by rw [vn_ints]; exact hA5', _, rfl, ?_⟩
          refine iteF ?_
          refine ⟨_, rfl, x, dx6, _, rfl, h6, not_ _ _, x, d, e, os6, rfl, S6, fun _ => ?_, fun j _ hj _ _ _ => absurd (List.mem_of_getElem? hj) h0⟩
          refine ⟨rfl, _, rfl, ?_⟩
          refine iteNS rfl ?_
          refine ⟨_, rfl, x, dx6, _, rfl, h6, nof _ _, x, d, e, os6, rfl, S6, rfl, _, rfl, ?_⟩
          refine iteNS ?_ ?_
          · rw [List.count_eq_zero.mpr h0]
            rfl
          -- if not _law_loosed(store, many) or store.free() != many: return False
          refine ⟨_, rfl, _, rfl, x, d, e, os6, by rw [c6.len]; rfl, S6, (c6.within hw3 (by decide) (by decide)).mono (by decide), fun H7 S7 K7 => ⟨_, rfl, ?_⟩⟩
          refine iteF ?_
          obtain ⟨dx7, h7⟩ := S7.ob
          refine ⟨_, rfl, x, dx7, _, rfl, h7, nof _ _, x, d, e, _, rfl, S7, _, rfl, rfl, _, rfl, ?_⟩
          refine iteNS ?_ ?_
          · rw [count_free, c6.len]
          -- return [store.take() for page in range(many)] == list(range(many))
          refine ⟨_, rfl, _, rfl, by omega, by omega, fun D9 hD9 => ?_⟩
          rw [Int.toNat_natCast]
          have nD9 := S7.apart hD9
          have el : (due (List.replicate os6.length 0)).length = os.length := by rw [due_free, List.length_range, c6.len]
          refine lc_range (lo := 0) (n := os.length) (fun i H' => Tak C x d e (List.replicate os6.length 0) H7 D9 i H') (Tak.start S7 hD9) ?_ ?_
          · rintro i H' hi tk
            obtain ⟨os', S', _, _, _⟩ := id tk
            obtain ⟨dx', h'⟩ := S'.ob
            refine ⟨rfl, ?_⟩
            have hj : (due (List.replicate os6.length 0))[i]? = some i := by
              rw [due_free, c6.len, List.getElem?_range hi]
            exact ⟨_, rfl, x, dx', _, rfl, h', not_ _ _, Tak.turn (E := E0) S7 hD9 (within_free _).nn hj tk⟩
          · rintro H8 ⟨os8, S8, c8, hA8, K8⟩
            rw [← el, List.take_length, due_free, c6.len] at hA8
            refine ⟨_, rfl, _, rfl, .of_le (by decide) (by omega) (by decide) (by omega), fun q hq => ?_⟩
            have eq : rgV 0 (os.length : Int) = (List.range os.length).map fun k : Nat => V.int (k : Int) := by
              unfold rgV
              rw [Int.sub_zero, Int.toNat_natCast]
              refine List.map_congr_left fun i _ => ?_
              exact congrArg V.int (by omega)
            have h9 : (upd H8 q (.lst (rgV 0 (os.length : Int)))) D9 = some (.lst (((List.range os.length).map fun k : Nat => (k : Int)).map V.int)) := by
              rw [upd_ne (ne_of_none hA8 hq), vn_ints]
              exact hA8
            have h10 : (upd H8 q (.lst (rgV 0 (os.length : Int)))) q = some (.lst (((List.range os.length).map fun k : Nat => (k : Int)).map V.int)) := by
              rw [upd_same, eq, vn_ints]
            refine ⟨_, _, .lst (SqL.of h9) (dpAll_ints _), .lst (SqL.of h10) (dpAll_ints _), PySem.W.ke_shaped_ints _, PySem.W.ke_shaped_ints _, ?_⟩
            rw [SeqAt.eqv_refl _ (SeqAt.canLay_of_shaped (PySem.W.ke_shaped_ints _))]
            exact k _
end
end Own

/-! What the top has left, and the law's head. -/
namespace Own
open PySem L2
theorem all_mk {l : PySem.W.OpenLaw} {w : World} {K : PySem.W.Frag} {h : Heap} {mg : Str → Option Value} {fa C f1 f2 f3 f4 f5 f6 f7 f8 f9 f10 f11 f12 f13 f14 f15 : Addr} (X : K.In h) (G : h.Ns mainGlobals mg) (hfa : mg "law" = some (.ref fa))
    {od1 an1 od2 an2 od3 an3 od4 an4 od5 an5 od6 an6 od7 an7 od8 an8 od9 an9 od10 an10 od11 an11 od12 an12 od13 an13 od14 an14 od15 an15 : Option Addr} {sl1 sl2 sl3 sl4 sl5 sl6 sl7 sl8 sl9 sl10 sl11 sl12 sl13 sl14 sl15 : Array (Option Value)} {oc1 kV1 dc1 pm1 cd1 ct1 oc2 kV2 dc2 pm2 cd2 ct2 oc3 kV3 dc3 pm3 cd3 ct3 oc4 kV4 dc4 pm4 cd4 ct4 oc5 kV5 dc5 pm5 cd5 ct5 oc6 kV6 dc6 pm6 cd6 ct6 oc7 kV7 dc7 pm7 cd7 ct7 oc8 kV8 dc8 pm8 cd8 ct8 oc9 kV9 dc9 pm9 cd9 ct9 oc10 kV10 dc10 pm10 cd10 ct10 oc11 kV11 dc11 pm11 cd11 ct11 oc12 kV12 dc12 pm12 cd12 ct12 oc13 kV13 dc13 pm13 cd13 ct13 oc14 kV14 dc14 pm14 cd14 ct14 oc15 kV15 dc15 pm15 cd15 ct15 : Value} {tP : Tok}
    (a1 : PySem.W.findIn K (.ref C) "__init__" = some (some (.ref f1))) (i1 : PySem.W.isFn K (.ref f1) = true) (l1 : K.lookup f1 = some ⟨oc1, od1, .func (PySem.W.fnOf "__init__" "Store.__init__" (defArgs sInit) (defBody sInit) (defScope sInit) .none kV1 dc1 pm1 an1 cd1 ct1), sl1⟩) (c1 : PySem.W.codeIn K cd1 "Store.__init__" = true) (k1 : PySem.W.keepIn K (.ref f1) = true)
    (a2 : PySem.W.findIn K (.ref C) "take" = some (some (.ref f2))) (i2 : PySem.W.isFn K (.ref f2) = true) (l2 : K.lookup f2 = some ⟨oc2, od2, .func (PySem.W.fnOf "take" "Store.take" (defArgs sTake) (defBody sTake) (defScope sTake) .none kV2 dc2 pm2 an2 cd2 ct2), sl2⟩) (c2 : PySem.W.codeIn K cd2 "Store.take" = true) (k2 : PySem.W.keepIn K (.ref f2) = true)
    (a3 : PySem.W.findIn K (.ref C) "look_taken" = some (some (.ref f3))) (i3 : PySem.W.isFn K (.ref f3) = true) (l3 : K.lookup f3 = some ⟨oc3, od3, .func (PySem.W.fnOf "look_taken" "Store.look_taken" (defArgs sLook) (defBody sLook) (defScope sLook) .none kV3 dc3 pm3 an3 cd3 ct3), sl3⟩) (c3 : PySem.W.codeIn K cd3 "Store.look_taken" = true) (k3 : PySem.W.keepIn K (.ref f3) = true)
    (a4 : PySem.W.findIn K (.ref C) "more" = some (some (.ref f4))) (i4 : PySem.W.isFn K (.ref f4) = true) (l4 : K.lookup f4 = some ⟨oc4, od4, .func (PySem.W.fnOf "more" "Store.more" (defArgs sMore) (defBody sMore) (defScope sMore) .none kV4 dc4 pm4 an4 cd4 ct4), sl4⟩) (c4 : PySem.W.codeIn K cd4 "Store.more" = true) (k4 : PySem.W.keepIn K (.ref f4) = true)
    (a5 : PySem.W.findIn K (.ref C) "less" = some (some (.ref f5))) (i5 : PySem.W.isFn K (.ref f5) = true) (l5 : K.lookup f5 = some ⟨oc5, od5, .func (PySem.W.fnOf "less" "Store.less" (defArgs sLess) (defBody sLess) (defScope sLess) .none kV5 dc5 pm5 an5 cd5 ct5), sl5⟩) (c5 : PySem.W.codeIn K cd5 "Store.less" = true) (k5 : PySem.W.keepIn K (.ref f5) = true)
    (a6 : PySem.W.findIn K (.ref C) "count" = some (some (.ref f6))) (i6 : PySem.W.isFn K (.ref f6) = true) (l6 : K.lookup f6 = some ⟨oc6, od6, .func (PySem.W.fnOf "count" "Store.count" (defArgs sCount) (defBody sCount) (defScope sCount) .none kV6 dc6 pm6 an6 cd6 ct6), sl6⟩) (c6 : PySem.W.codeIn K cd6 "Store.count" = true) (k6 : PySem.W.keepIn K (.ref f6) = true)
    (a7 : PySem.W.findIn K (.ref C) "free" = some (some (.ref f7))) (i7 : PySem.W.isFn K (.ref f7) = true) (l7 : K.lookup f7 = some ⟨oc7, od7, .func (PySem.W.fnOf "free" "Store.free" (defArgs sFree) (defBody sFree) (defScope sFree) .none kV7 dc7 pm7 an7 cd7 ct7), sl7⟩) (c7 : PySem.W.codeIn K cd7 "Store.free" = true) (k7 : PySem.W.keepIn K (.ref f7) = true)
    (a8 : PySem.W.nsIn K mainGlobals "_law_whole" = some (some (.ref f8))) (l8 : K.lookup f8 = some ⟨oc8, od8, .func (PySem.W.fnOf "_law_whole" "_law_whole" (defArgs sWhole) (defBody sWhole) (defScope sWhole) .none kV8 dc8 pm8 an8 cd8 ct8), sl8⟩) (c8 : PySem.W.codeIn K cd8 "_law_whole" = true) (k8 : PySem.W.keepIn K (.ref f8) = true)
    (a9 : PySem.W.nsIn K mainGlobals "_law_cell_at" = some (some (.ref f9))) (l9 : K.lookup f9 = some ⟨oc9, od9, .func (PySem.W.fnOf "_law_cell_at" "_law_cell_at" (defArgs sCell) (defBody sCell) (defScope sCell) .none kV9 dc9 pm9 an9 cd9 ct9), sl9⟩) (c9 : PySem.W.codeIn K cd9 "_law_cell_at" = true) (k9 : PySem.W.keepIn K (.ref f9) = true)
    (a10 : PySem.W.nsIn K mainGlobals "_law_mix" = some (some (.ref f10))) (l10 : K.lookup f10 = some ⟨oc10, od10, .func (PySem.W.fnOf "_law_mix" "_law_mix" (defArgs sMix) (defBody sMix) (defScope sMix) .none kV10 dc10 pm10 an10 cd10 ct10), sl10⟩) (c10 : PySem.W.codeIn K cd10 "_law_mix" = true) (k10 : PySem.W.keepIn K (.ref f10) = true)
    (a11 : PySem.W.nsIn K mainGlobals "_law_numbers" = some (some (.ref f11))) (l11 : K.lookup f11 = some ⟨oc11, od11, .func (PySem.W.fnOf "_law_numbers" "_law_numbers" (defArgs sNumbers) (defBody sNumbers) (defScope sNumbers) .none kV11 dc11 pm11 an11 cd11 ct11), sl11⟩) (c11 : PySem.W.codeIn K cd11 "_law_numbers" = true) (k11 : PySem.W.keepIn K (.ref f11) = true)
    (a12 : PySem.W.nsIn K mainGlobals "_law_deeds_by" = some (some (.ref f12))) (l12 : K.lookup f12 = some ⟨oc12, od12, .func (PySem.W.fnOf "_law_deeds_by" "_law_deeds_by" (defArgs sDeeds) (defBody sDeeds) (defScope sDeeds) .none kV12 dc12 pm12 an12 cd12 ct12), sl12⟩) (c12 : PySem.W.codeIn K cd12 "_law_deeds_by" = true) (k12 : PySem.W.keepIn K (.ref f12) = true)
    (a13 : PySem.W.nsIn K mainGlobals "_law_taken" = some (some (.ref f13))) (l13 : K.lookup f13 = some ⟨oc13, od13, .func (PySem.W.fnOf "_law_taken" "_law_taken" (defArgs sTaken) (defBody sTaken) (defScope sTaken) .none kV13 dc13 pm13 an13 cd13 ct13), sl13⟩) (c13 : PySem.W.codeIn K cd13 "_law_taken" = true) (k13 : PySem.W.keepIn K (.ref f13) = true)
    (a14 : PySem.W.nsIn K mainGlobals "_law_loosed" = some (some (.ref f14))) (l14 : K.lookup f14 = some ⟨oc14, od14, .func (PySem.W.fnOf "_law_loosed" "_law_loosed" (defArgs sLoosed) (defBody sLoosed) (defScope sLoosed) .none kV14 dc14 pm14 an14 cd14 ct14), sl14⟩) (c14 : PySem.W.codeIn K cd14 "_law_loosed" = true) (k14 : PySem.W.keepIn K (.ref f14) = true)
    (a15 : PySem.W.nsIn K mainGlobals "law" = some (some (.ref f15))) (l15 : K.lookup f15 = some ⟨oc15, od15, .func (PySem.W.fnOf "law" "law" (defArgs sLaw) (defBody sLaw) (defScope sLaw) .none kV15 dc15 pm15 an15 cd15 ct15), sl15⟩) (c15 : PySem.W.codeIn K cd15 "law" = true) (k15 : PySem.W.keepIn K (.ref f15) = true)
    (aC : PySem.W.nsIn K mainGlobals "Store" = some (some (.ref C))) (pg : PySem.W.plainGet K C Str.empty = true) (hd : PySem.W.hasDictIn K C = true) (po : PySem.W.plainOver K C = true) (sa : PySem.W.findIn K (.ref C) "__setattr__" = some (some (.builtin "object.__setattr__"))) (mk : PySem.W.makesIn K C = true) (kc : PySem.W.keepIn K (.ref C) = true)
    (nO : PySem.W.findIn K (.ref C) "owners" = some none) (nC : PySem.W.findIn K (.ref C) "contents" = some none) (aP : PySem.W.nsIn K mainGlobals "PAGE_SIZE" = some (some (.int 8 tP)))
    (z1 : PySem.W.nsIn K mainGlobals "len" = some none) (z2 : PySem.W.nsIn K mainGlobals "range" = some none) (z3 : PySem.W.nsIn K mainGlobals "isinstance" = some none) (z4 : PySem.W.nsIn K mainGlobals "int" = some none) (z5 : PySem.W.nsIn K mainGlobals "bool" = some none) (z6 : PySem.W.nsIn K mainGlobals "list" = some none) (z7 : PySem.W.nsIn K mainGlobals "max" = some none) :
    ∃ fd : FuncData, (∀ (s : Shared) (v : Value), BindsTo s fd ⟨[v], []⟩ [("_law_script", v)]) ∧ ∀ base : Heap, K.In base → base.Ns mainGlobals mg → FnOk l.prog w K mg base CX0 5 fa fd ["_law_script"] (spLaw K) := by
  have e := hfa.symm.trans (PySem.W.mg_of X G a15)
  cases e
  have T : Txt K mg C := ⟨⟨pg, hd, po, sa⟩, nO, nC, PySem.W.mg_of X G aC, ⟨tP, PySem.W.mg_of X G aP⟩, PySem.W.mg_none_of X G z1, PySem.W.mg_none_of X G z2, PySem.W.mg_none_of X G z3, PySem.W.mg_none_of X G z4, PySem.W.mg_none_of X G z5, PySem.W.mg_none_of X G z6, PySem.W.mg_none_of X G z7⟩
  have F1 := fun_mk (st := sInit) l1 c1 k1
  have b1 := F1.binds (ps := ["self", "many"]) fun _ _ _ _ _ _ us hl => match us, hl with | [_, _], _ => rfl
  have F2 := fun_mk (st := sTake) l2 c2 k2
  have b2 := F2.binds (ps := ["self"]) fun _ _ _ _ _ _ us hl => match us, hl with | [_], _ => rfl
  have m2 : Meth K C "take" f2 := ⟨a2, i2, k2⟩
  have F3 := fun_mk (st := sLook) l3 c3 k3
  have b3 := F3.binds (ps := ["self", "page"]) fun _ _ _ _ _ _ us hl => match us, hl with | [_, _], _ => rfl
  have m3 : Meth K C "look_taken" f3 := ⟨a3, i3, k3⟩
  have F4 := fun_mk (st := sMore) l4 c4 k4
  have b4 := F4.binds (ps := ["self", "page"]) fun _ _ _ _ _ _ us hl => match us, hl with | [_, _], _ => rfl
  have m4 : Meth K C "more" f4 := ⟨a4, i4, k4⟩
  have F5 := fun_mk (st := sLess) l5 c5 k5
  have b5 := F5.binds (ps := ["self", "page"]) fun _ _ _ _ _ _ us hl => match us, hl with | [_, _], _ => rfl
  have m5 : Meth K C "less" f5 := ⟨a5, i5, k5⟩
  have F6 := fun_mk (st := sCount) l6 c6 k6
  have b6 := F6.binds (ps := ["self", "page"]) fun _ _ _ _ _ _ us hl => match us, hl with | [_, _], _ => rfl
  have m6 : Meth K C "count" f6 := ⟨a6, i6, k6⟩
  have F7 := fun_mk (st := sFree) l7 c7 k7
  have b7 := F7.binds (ps := ["self"]) fun _ _ _ _ _ _ us hl => match us, hl with | [_], _ => rfl
  have m7 : Meth K C "free" f7 := ⟨a7, i7, k7⟩
  have F8 := fun_mk (st := sWhole) l8 c8 k8
  have b8 := F8.binds (ps := ["_law_found"]) fun _ _ _ _ _ _ us hl => match us, hl with | [_], _ => rfl
  have F9 := fun_mk (st := sCell) l9 c9 k9
  have b9 := F9.binds (ps := ["_law_script", "_law_k"]) fun _ _ _ _ _ _ us hl => match us, hl with | [_, _], _ => rfl
  have F10 := fun_mk (st := sMix) l10 c10 k10
  have b10 := F10.binds (ps := ["_law_cell", "_law_factor", "_law_prime"]) fun _ _ _ _ _ _ us hl => match us, hl with | [_, _, _], _ => rfl
  have F11 := fun_mk (st := sNumbers) l11 c11 k11
  have b11 := F11.binds (ps := ["_law_found", "_law_due"]) fun _ _ _ _ _ _ us hl => match us, hl with | [_, _], _ => rfl
  have F12 := fun_mk (st := sDeeds) l12 c12 k12
  have b12 := F12.binds (ps := ["_law_script", "_law_many"]) fun _ _ _ _ _ _ us hl => match us, hl with | [_, _], _ => rfl
  have F13 := fun_mk (st := sTaken) l13 c13 k13
  have b13 := F13.binds (ps := ["_law_store", "_law_many"]) fun _ _ _ _ _ _ us hl => match us, hl with | [_, _], _ => rfl
  have F14 := fun_mk (st := sLoosed) l14 c14 k14
  have b14 := F14.binds (ps := ["_law_store", "_law_many"]) fun _ _ _ _ _ _ us hl => match us, hl with | [_, _], _ => rfl
  have F15 := fun_mk (st := sLaw) l15 c15 k15
  refine ⟨PySem.W.fnOf "law" "law" (defArgs sLaw) (defBody sLaw) (defScope sLaw) .none kV15 dc15 pm15 an15 cd15 ct15, fun s v => .of_eq rfl, fun base _ _ => ?_⟩
  have Gc := ok_count (P := l.prog) (w := w) (base := base) F6 T
  have Gk := ok_look (P := l.prog) (w := w) (base := base) F3 T Gc b6 m6
  have DW : Df l.prog w K mg base "_law_whole" 1 ["_law_found"] spWhole := ⟨_, _, ok_whole F8 T, b8, PySem.W.mg_of X G a8, k8⟩
  have DC : Df l.prog w K mg base "_law_cell_at" 1 ["_law_script", "_law_k"] (spCell K) := ⟨_, _, ok_cell F9 T, b9, PySem.W.mg_of X G a9, k9⟩
  have DM : Df l.prog w K mg base "_law_mix" 1 ["_law_cell", "_law_factor", "_law_prime"] spMix := ⟨_, _, ok_mix F10, b10, PySem.W.mg_of X G a10, k10⟩
  have DN : Df l.prog w K mg base "_law_numbers" 2 ["_law_found", "_law_due"] spNumbers := ⟨_, _, ok_numbers F11 T DW, b11, PySem.W.mg_of X G a11, k11⟩
  have DD : Df l.prog w K mg base "_law_deeds_by" 2 ["_law_script", "_law_many"] (spDeeds K) := ⟨_, _, ok_deeds F12 T DC DM, b12, PySem.W.mg_of X G a12, k12⟩
  have Mc : Mt l.prog w K mg base C "count" 1 ["self", "page"] (spCount C) := ⟨_, _, Gc, b6, m6⟩
  have Ml : Mt l.prog w K mg base C "less" 3 ["self", "page"] (spStep C fun x => x - 1) := ⟨_, _, ok_less F5 T Gk b3 m3, b5, m5⟩
  have DT : Df l.prog w K mg base "_law_taken" 2 ["_law_store", "_law_many"] (spTaken C) := ⟨_, _, ok_taken F13 T Mc, b13, PySem.W.mg_of X G a13, k13⟩
  have DL : Df l.prog w K mg base "_law_loosed" 4 ["_law_store", "_law_many"] (spLoosed C) := ⟨_, _, ok_loosed F14 T DT Mc Ml, b14, PySem.W.mg_of X G a14, k14⟩
  exact ok_law F15 T ⟨mk, a1, i1, kc⟩ (ok_init F1 T) b1 ⟨_, _, ok_take F2 T, b2, m2⟩ ⟨_, _, ok_more F4 T Gk b3 m3, b4, m4⟩ Ml Mc ⟨_, _, ok_free F7 T, b7, m7⟩ DW DC DN DD DT DL
theorem walk {l : PySem.W.OpenLaw} {q : Program} {loose : List Str} {XP : (Str → Option Value) → Heap → Prop} {YP : World → Heap → Prop} {d : DefRec} {K : Params → PySem.W.Frag} (hn : l.most = some 63) (hdf : d.params.defaults = [])
    (hY : ∀ (w : World) (h : Heap), YP w h → (K w.params).In h)
    (F : ∀ (w : World) (mg : Str → Option Value) (fa : Addr) (h : Heap), (K w.params).In h → h.Ns mainGlobals mg → mg d.name = some (.ref fa) →
      ∃ fd : FuncData, (∀ (s : Shared) (u : Value), BindsTo s fd ⟨[u], []⟩ [("_law_script", u)]) ∧ ∀ base : Heap, (K w.params).In base → base.Ns mainGlobals mg → FnOk l.prog w (K w.params) mg base CX0 5 fa fd ["_law_script"] (spLaw (K w.params))) :
    PySem.W.WalkO q loose XP YP l.row.toRowW d [] (fun f vs => PySem.call f vs) :=
  L2.walk_of (n := 63) (k := 5) (x := "_law_script") (CX := fun _ => CX0) (sp := fun w => spLaw (K w.params)) hn (by decide) hdf ⟨rfl, by decide, by decide⟩ hY F (fun _ _ a ns hl _ hS => ⟨a, ns, rfl, hS, hl, fun _ => rfl⟩) fun _ _ _ _ _ z => z
end Own
open PySem PySem.W PyProof.Rows
set_option maxRecDepth 100000 in
set_option maxHeartbeats 0 in
theorem PySem.Challenge.cw_ownroom_k03_stores_nothing_lost_holds : PySem.Challenge.rw_ownroom_k03_stores_nothing_lost.Holds := by
  w_on; o_law; k_head; (case hw => w_witness2)
  k_fill
  refine Own.walk (l := PySem.Challenge.rw_ownroom_k03_stores_nothing_lost) rfl rfl (fun w h Y => PySem.W.kIn_of Y) ?F
  case F =>
    intro w mg fa h KX G hmg
    refine' Own.all_mk KX G hmg ?a1 ?i1 ?l1 ?c1 ?k1 ?a2 ?i2 ?l2 ?c2 ?k2 ?a3 ?i3 ?l3 ?c3 ?k3 ?a4 ?i4 ?l4 ?c4 ?k4 ?a5 ?i5 ?l5 ?c5 ?k5 ?a6 ?i6 ?l6 ?c6 ?k6 ?a7 ?i7 ?l7 ?c7 ?k7 ?a8 ?l8 ?c8 ?k8 ?a9 ?l9 ?c9 ?k9 ?a10 ?l10 ?c10 ?k10 ?a11 ?l11 ?c11 ?k11 ?a12 ?l12 ?c12 ?k12 ?a13 ?l13 ?c13 ?k13 ?a14 ?l14 ?c14 ?k14 ?a15 ?l15 ?c15 ?k15 ?aC ?pg ?hd ?po ?sa ?mk ?kc ?nO ?nC ?aP ?z1 ?z2 ?z3 ?z4 ?z5 ?z6 ?z7
    (case aC => k_is)
    (case a1 => k_is)
    (case i1 => k_is)
    (case l1 => k_is)
    (case c1 => k_is)
    (case k1 => k_is)
    (case a2 => k_is)
    (case i2 => k_is)
    (case l2 => k_is)
    (case c2 => k_is)
    (case k2 => k_is)
    (case a3 => k_is)
    (case i3 => k_is)
    (case l3 => k_is)
    (case c3 => k_is)
    (case k3 => k_is)
    (case a4 => k_is)
    (case i4 => k_is)
    (case l4 => k_is)
    (case c4 => k_is)
    (case k4 => k_is)
    (case a5 => k_is)
    (case i5 => k_is)
    (case l5 => k_is)
    (case c5 => k_is)
    (case k5 => k_is)
    (case a6 => k_is)
    (case i6 => k_is)
    (case l6 => k_is)
    (case c6 => k_is)
    (case k6 => k_is)
    (case a7 => k_is)
    (case i7 => k_is)
    (case l7 => k_is)
    (case c7 => k_is)
    (case k7 => k_is)
    (case a8 => k_is)
    (case l8 => k_is)
    (case c8 => k_is)
    (case k8 => k_is)
    (case a9 => k_is)
    (case l9 => k_is)
    (case c9 => k_is)
    (case k9 => k_is)
    (case a10 => k_is)
    (case l10 => k_is)
    (case c10 => k_is)
    (case k10 => k_is)
    (case a11 => k_is)
    (case l11 => k_is)
    (case c11 => k_is)
    (case k11 => k_is)
    (case a12 => k_is)
    (case l12 => k_is)
    (case c12 => k_is)
    (case k12 => k_is)
    (case a13 => k_is)
    (case l13 => k_is)
    (case c13 => k_is)
    (case k13 => k_is)
    (case a14 => k_is)
    (case l14 => k_is)
    (case c14 => k_is)
    (case k14 => k_is)
    (case a15 => k_is)
    (case l15 => k_is)
    (case c15 => k_is)
    (case k15 => k_is)
    (case pg => k_is)
    (case hd => k_is)
    (case po => k_is)
    (case sa => k_is)
    (case mk => k_is)
    (case kc => k_is)
    (case nO => k_is)
    (case nC => k_is)
    (case aP => k_is)
    (case z1 => k_is)
    (case z2 => k_is)
    (case z3 => k_is)
    (case z4 => k_is)
    (case z5 => k_is)
    (case z6 => k_is)
    (case z7 => k_is)
#print axioms PySem.Challenge.cw_ownroom_k03_stores_nothing_lost_holds
