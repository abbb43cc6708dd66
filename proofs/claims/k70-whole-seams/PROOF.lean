import PyProof.Rows.All
import Wide.All
import OpenK.AllK
import Wide.FinOn
import KE.GoesEnumKw
import KE.GoesNew
import KE.KStateDown
import Lean
import HandS.ForMost
import HandS.Exc
import HandS.Defaults
import HandS.IsInst
import HandS.RevRange
import HandS.StrMore
import HandS.SortKw
import HandS.TupAny
import HandS.Wide
import HandS.Walk
import HandS.MakeKw
import HandS.More
import HandS.SetKeys
import HandS.DeepEq
import KE.DatumOrd
import HandS.SetTxt0
import KE.GoesMore
import HandS.TupLen
import HandS.SetFor
import KE.KDictDisplayH
import HandS.Head0
import HandS.Head1
import HandS.Head2
import HandS.HeadEnd
import HandS.HeadHook1
import HandS.HeadHook2
import HandS.Ends
import PySem.Challenge.RW_markseam_k70_whole_seams_cut_and_joined
set_option linter.all false
namespace K70
/-! ## texts -/
abbrev Tx := List Nat
def lcp : Tx → Tx → Tx
  | a :: x, b :: y => if a = b then a :: lcp x y else []
  | _, _ => []
theorem lcp_nil_right (x : Tx) : lcp x [] = [] := by cases x <;> rfl
theorem lcp_left : ∀ a b : Tx, lcp a b <+: a
  | [], b => by cases b <;> exact List.nil_prefix
  | a :: x, [] => List.nil_prefix
  | a :: x, b :: y => by
    unfold lcp
    by_cases h : a = b
    · rw [if_pos h]; exact (List.prefix_cons_inj a).mpr (lcp_left x y)
    · rw [if_neg h]; exact List.nil_prefix
theorem lcp_right : ∀ a b : Tx, lcp a b <+: b
  | [], b => by cases b <;> exact List.nil_prefix
  | a :: x, [] => List.nil_prefix
  | a :: x, b :: y => by
    unfold lcp
    by_cases h : a = b
    · rw [if_pos h, h]; exact (List.prefix_cons_inj b).mpr (lcp_right x y)
    · rw [if_neg h]; exact List.nil_prefix
theorem lcp_max : ∀ (t a b : Tx), t <+: a → t <+: b → t <+: lcp a b
  | [], a, b, _, _ => List.nil_prefix
  | c :: t, [], b, h, _ => by simp at h
  | c :: t, a :: x, [], _, h => by simp at h
  | c :: t, a :: x, b :: y, h1, h2 => by
    rw [List.cons_prefix_cons] at h1 h2
    unfold lcp
    rw [if_pos (h1.1.symm.trans h2.1), ← h1.1]
    exact (List.prefix_cons_inj c).mpr (lcp_max t x y h1.2 h2.2)
theorem lcp_app : ∀ p u v : Tx, lcp (p ++ u) (p ++ v) = p ++ lcp u v
  | [], u, v => rfl
  | c :: p, u, v => by
    show (if c = c then c :: lcp (p ++ u) (p ++ v) else []) = c :: (p ++ lcp u v)
    rw [if_pos rfl, lcp_app p u v]
def rests (a b : Tx) : Tx × Tx := (a.drop (lcp a b).length, b.drop (lcp a b).length)
theorem pre_drop {a b : Tx} (h : a <+: b) : a ++ b.drop a.length = b := by
  obtain ⟨c, rfl⟩ := h
  simp
theorem rests_1 (a b : Tx) : lcp a b ++ (rests a b).1 = a := pre_drop (lcp_left a b)
theorem rests_2 (a b : Tx) : lcp a b ++ (rests a b).2 = b := pre_drop (lcp_right a b)
theorem rests_strip (a b : Tx) : lcp (rests a b).1 (rests a b).2 = [] := by
  have h := lcp_app (lcp a b) (rests a b).1 (rests a b).2
  rw [rests_1, rests_2] at h
  have h2 : (lcp a b).length = (lcp a b ++ lcp (rests a b).1 (rests a b).2).length := congrArg List.length h
  rw [List.length_append] at h2
  exact List.eq_nil_of_length_eq_zero (by omega)
theorem rests_pre (p u v : Tx) : rests (p ++ u) (p ++ v) = rests u v := by
  unfold rests
  rw [lcp_app, List.length_append]
  simp [List.drop_append]
theorem rests_app (a b x y : Tx) : rests ((rests a b).1 ++ x) ((rests a b).2 ++ y) = rests (a ++ x) (b ++ y) := by
  have h := rests_pre (lcp a b) ((rests a b).1 ++ x) ((rests a b).2 ++ y)
  rw [← List.append_assoc, ← List.append_assoc, rests_1, rests_2] at h
  exact h.symm
/-- a stripped pair: only one of both is not empty, or they part at once -/
theorem strip_eq {a b x y : Tx} (h : lcp a b = []) (e : a ++ x = b ++ y) : a = [] ∨ b = [] := by
  cases a with
  | nil => exact .inl rfl
  | cons c a =>
    cases b with
    | nil => exact .inr rfl
    | cons d b =>
      have e1 : c = d := (List.cons.inj e).1
      unfold lcp at h
      rw [if_pos e1] at h
      cases h
theorem rests_len1 (a b : Tx) : (rests a b).1.length ≤ a.length := by unfold rests; simp
theorem rests_len2 (a b : Tx) : (rests a b).2.length ≤ b.length := by unfold rests; simp
/-! ## counting -/
theorem nodup_le : ∀ (c : Nat) (l : List Nat), l.Nodup → (∀ x ∈ l, x < c) → l.length ≤ c
  | 0, l, _, h => by
    cases l with
    | nil => exact Nat.le_refl _
    | cons x r => exact absurd (h x List.mem_cons_self) (Nat.not_lt_zero _)
  | c + 1, l, nd, h => by
    have h1 := nodup_le c (l.erase c) (nd.erase c) fun x hx => by
      have h2 := h x (List.mem_of_mem_erase hx)
      have h3 : x ≠ c := ((nd.mem_erase_iff).mp hx).1
      omega
    have h2 : l.length ≤ (l.erase c).length + 1 := by
      rw [List.length_erase]
      split <;> omega
    omega
theorem nodup_full {c : Nat} {l : List Nat} (nd : l.Nodup) (h : ∀ x ∈ l, x < c) (hl : l.length = c) {u : Nat} (hu : u < c) : u ∈ l := by
  by_cases hm : u ∈ l
  · exact hm
  · have := nodup_le c (u :: l) (List.nodup_cons.mpr ⟨hm, nd⟩) (by
      intro x hx
      rcases List.mem_cons.mp hx with e | e
      · rw [e]; exact hu
      · exact h x e)
    rw [List.length_cons] at this
    omega
/-- a map of 0 .. c-1 onto itself is one to one -/
theorem onto_inj {c : Nat} (g : Nat → Nat) (on : ∀ v, v < c → ∃ u, u < c ∧ g u = v) {u1 u2 : Nat} (h1 : u1 < c) (h2 : u2 < c) (e : g u1 = g u2) : u1 = u2 := by
  have on' : ∀ v, ∃ u, v < c → u < c ∧ g u = v := fun v => by
    by_cases h : v < c
    · obtain ⟨u, hu⟩ := on v h
      exact ⟨u, fun _ => hu⟩
    · exact ⟨0, fun q => absurd q h⟩
  obtain ⟨f, hf⟩ := Classical.axiomOfChoice on'
  have nd : ((List.range c).map f).Nodup := by
    unfold List.Nodup
    rw [List.pairwise_map]
    refine (List.nodup_range (n := c)).imp_of_mem ?_
    intro a b ha hb hab q
    have ha' := (hf a (List.mem_range.mp ha)).2
    have hb' := (hf b (List.mem_range.mp hb)).2
    exact hab (by rw [← ha', ← hb', q])
  have all : ∀ x ∈ (List.range c).map f, x < c := by
    intro x hx
    obtain ⟨a, ha, rfl⟩ := List.mem_map.mp hx
    exact (hf a (List.mem_range.mp ha)).1
  have full : ∀ u, u < c → ∃ v, v < c ∧ f v = u := fun u hu => by
    obtain ⟨a, ha, q⟩ := List.mem_map.mp (nodup_full nd all (by simp) hu)
    exact ⟨a, List.mem_range.mp ha, q⟩
  obtain ⟨v1, a1, b1⟩ := full u1 h1
  obtain ⟨v2, a2, b2⟩ := full u2 h2
  have e1 : g u1 = v1 := by rw [← b1]; exact (hf v1 a1).2
  have e2 : g u2 = v2 := by rw [← b2]; exact (hf v2 a2).2
  rw [← b1, ← b2, ← e1, ← e2, e]
/-! ## machines -/
abbrev Way := Tx × Nat
abbrev Rm := Tx × List Way
structure M where
  letters : Tx
  rooms : List Rm
  first : Tx
def endAt (rs : List Rm) (k : Nat) : Tx := (rs.getD k ([], [])).1
def waysAt (rs : List Rm) (k : Nat) : List Way := (rs.getD k ([], [])).2
def wayAt (ls : Tx) (rs : List Rm) (k c : Nat) : Way := (waysAt rs k).getD (ls.idxOf c) ([], 0)
def walkF (ls : Tx) (rs : List Rm) : Nat → Tx → Tx × Nat
  | k, [] => ([], k)
  | k, c :: y => ((wayAt ls rs k c).1 ++ (walkF ls rs (wayAt ls rs k c).2 y).1, (walkF ls rs (wayAt ls rs k c).2 y).2)
def rowF (ls : Tx) (rs : List Rm) (k : Nat) (y : Tx) : Tx := (walkF ls rs k y).1 ++ endAt rs (walkF ls rs k y).2
def M.row (m : M) (y : Tx) : Tx := m.first ++ rowF m.letters m.rooms 0 y
def Wd (ls y : Tx) : Prop := ∀ c ∈ y, c ∈ ls
def sg : Tx := [65, 66, 67, 68, 69, 70, 71, 72, 73, 74, 75, 76, 77, 78, 79, 80, 81, 82, 83, 84, 85, 86, 87, 88, 89, 90, 97, 98, 99, 100, 101, 102, 103, 104, 105, 106, 107, 108, 109, 110, 111, 112, 113, 114, 115, 116, 117, 118, 119, 120, 121, 122]
def SgT (t : Tx) : Prop := ∀ c ∈ t, c ∈ sg
theorem SgT.nil : SgT [] := fun c h => by cases h
theorem SgT.app {a b : Tx} (x : SgT a) (y : SgT b) : SgT (a ++ b) := fun c h => (List.mem_append.mp h).elim (x c) (y c)
theorem SgT.drop {a : Tx} (x : SgT a) (n : Nat) : SgT (a.drop n) := fun c h => x c (List.mem_of_mem_drop h)
theorem SgT.take {a : Tx} (x : SgT a) (n : Nat) : SgT (a.take n) := fun c h => x c (List.mem_of_mem_take h)
theorem SgT.pre {a b : Tx} (x : SgT b) (h : a <+: b) : SgT a := fun c hc => x c (h.subset hc)
structure LOk (ls : Tx) : Prop where
  pos : 1 ≤ ls.length
  le : ls.length ≤ 16
  nd : ls.Nodup
  sg : SgT ls
structure ROk (ls : Tx) (B : Nat) (rs : List Rm) : Prop where
  pos : 0 < rs.length
  le : rs.length ≤ 200
  room : ∀ r ∈ rs, SgT r.1 ∧ r.1.length ≤ B ∧ r.2.length = ls.length ∧ ∀ w ∈ r.2, SgT w.1 ∧ w.1.length ≤ B ∧ w.2 < rs.length
structure MOk (B : Nat) (m : M) : Prop where
  l : LOk m.letters
  r : ROk m.letters B m.rooms
  f : SgT m.first
  fl : m.first.length ≤ B
theorem Wd.nil {ls : Tx} : Wd ls [] := fun c h => by cases h
theorem Wd.app {ls a b : Tx} (x : Wd ls a) (y : Wd ls b) : Wd ls (a ++ b) := fun c h => (List.mem_append.mp h).elim (x c) (y c)
theorem Wd.left {ls a b : Tx} (x : Wd ls (a ++ b)) : Wd ls a := fun c h => x c (List.mem_append_left _ h)
theorem Wd.right {ls a b : Tx} (x : Wd ls (a ++ b)) : Wd ls b := fun c h => x c (List.mem_append_right _ h)
theorem Wd.take {ls a : Tx} (x : Wd ls a) (n : Nat) : Wd ls (a.take n) := fun c h => x c (List.mem_of_mem_take h)
theorem Wd.drop {ls a : Tx} (x : Wd ls a) (n : Nat) : Wd ls (a.drop n) := fun c h => x c (List.mem_of_mem_drop h)
theorem Wd.head {ls a : Tx} {c : Nat} (x : Wd ls (c :: a)) : c ∈ ls := x c List.mem_cons_self
theorem Wd.tail {ls a : Tx} {c : Nat} (x : Wd ls (c :: a)) : Wd ls a := fun d h => x d (List.mem_cons_of_mem _ h)
theorem Wd.cons {ls a : Tx} {c : Nat} (h : c ∈ ls) (x : Wd ls a) : Wd ls (c :: a) := fun d hd => (List.mem_cons.mp hd).elim (fun e => e ▸ h) (x d)
theorem getD_mem {α : Type} {l : List α} {i : Nat} {d : α} (h : i < l.length) : l.getD i d ∈ l := by
  rw [List.getD_eq_getElem?_getD, List.getElem?_eq_getElem h]
  exact List.getElem_mem h
theorem getD_of {α : Type} {l : List α} {i : Nat} {d x : α} (h : l[i]? = some x) : l.getD i d = x := by
  rw [List.getD_eq_getElem?_getD, h]; rfl
section
variable {ls : Tx} {B : Nat} {rs : List Rm}
theorem rowF_nil (k : Nat) : rowF ls rs k [] = endAt rs k := rfl
theorem rowF_cons (k c : Nat) (y : Tx) : rowF ls rs k (c :: y) = (wayAt ls rs k c).1 ++ rowF ls rs (wayAt ls rs k c).2 y := by
  unfold rowF
  show ((wayAt ls rs k c).1 ++ (walkF ls rs (wayAt ls rs k c).2 y).1) ++ _ = _
  rw [List.append_assoc]
  rfl
theorem ROk.room_at (R : ROk ls B rs) {k : Nat} (h : k < rs.length) : SgT (endAt rs k) ∧ (endAt rs k).length ≤ B ∧ (waysAt rs k).length = ls.length ∧ ∀ w ∈ waysAt rs k, SgT w.1 ∧ w.1.length ≤ B ∧ w.2 < rs.length :=
  R.room _ (getD_mem h)
theorem ROk.way_mem (R : ROk ls B rs) {k c : Nat} (h : k < rs.length) (hc : c ∈ ls) : wayAt ls rs k c ∈ waysAt rs k := by
  refine getD_mem ?_
  rw [(R.room_at h).2.2.1]
  exact List.idxOf_lt_length_iff.mpr hc
theorem ROk.way_lt (R : ROk ls B rs) {k c : Nat} (h : k < rs.length) (hc : c ∈ ls) : (wayAt ls rs k c).2 < rs.length := ((R.room_at h).2.2.2 _ (R.way_mem h hc)).2.2
theorem ROk.way_len (R : ROk ls B rs) {k c : Nat} (h : k < rs.length) (hc : c ∈ ls) : (wayAt ls rs k c).1.length ≤ B := ((R.room_at h).2.2.2 _ (R.way_mem h hc)).2.1
theorem ROk.way_sg (R : ROk ls B rs) {k c : Nat} (h : k < rs.length) (hc : c ∈ ls) : SgT (wayAt ls rs k c).1 := ((R.room_at h).2.2.2 _ (R.way_mem h hc)).1
theorem way_of_mem {k : Nat} (L : LOk ls) (hl : (waysAt rs k).length = ls.length) {w : Way} (h : w ∈ waysAt rs k) : ∃ c ∈ ls, wayAt ls rs k c = w := by
  obtain ⟨i, hi, e⟩ := List.mem_iff_getElem.mp h
  have hi2 : i < ls.length := by omega
  refine ⟨ls[i], List.getElem_mem hi2, ?_⟩
  unfold wayAt
  rw [List.Nodup.idxOf_getElem L.nd i hi2]
  exact getD_of (by rw [List.getElem?_eq_getElem hi, e])
theorem walkF_app (k : Nat) : ∀ x y : Tx, walkF ls rs k (x ++ y) = ((walkF ls rs k x).1 ++ (walkF ls rs (walkF ls rs k x).2 y).1, (walkF ls rs (walkF ls rs k x).2 y).2) := by
  intro x
  induction x generalizing k with
  | nil => intro y; rfl
  | cons c x ih =>
    intro y
    show ((wayAt ls rs k c).1 ++ (walkF ls rs (wayAt ls rs k c).2 (x ++ y)).1, (walkF ls rs (wayAt ls rs k c).2 (x ++ y)).2) = _
    rw [ih]
    show _ = (((wayAt ls rs k c).1 ++ (walkF ls rs (wayAt ls rs k c).2 x).1) ++ _, _)
    rw [List.append_assoc]
    rfl
theorem rowF_app (k : Nat) (x y : Tx) : rowF ls rs k (x ++ y) = (walkF ls rs k x).1 ++ rowF ls rs (walkF ls rs k x).2 y := by
  unfold rowF
  rw [walkF_app]
  show (_ ++ _) ++ _ = _
  rw [List.append_assoc]
theorem ROk.walk_lt (R : ROk ls B rs) : ∀ (y : Tx) (k : Nat), k < rs.length → Wd ls y → (walkF ls rs k y).2 < rs.length
  | [], k, h, _ => h
  | c :: y, k, h, w => R.walk_lt y _ (R.way_lt h w.head) w.tail
theorem ROk.walk_len (R : ROk ls B rs) : ∀ (y : Tx) (k : Nat), k < rs.length → Wd ls y → (walkF ls rs k y).1.length ≤ B * y.length
  | [], k, h, _ => Nat.zero_le _
  | c :: y, k, h, w => by
    show ((wayAt ls rs k c).1 ++ (walkF ls rs (wayAt ls rs k c).2 y).1).length ≤ _
    have h1 := R.walk_len y _ (R.way_lt h w.head) w.tail
    have h2 := R.way_len h w.head
    rw [List.length_append, List.length_cons, Nat.mul_add, Nat.mul_one]
    omega
theorem ROk.walk_sg (R : ROk ls B rs) : ∀ (y : Tx) (k : Nat), k < rs.length → Wd ls y → SgT (walkF ls rs k y).1
  | [], k, h, _ => SgT.nil
  | c :: y, k, h, w => (R.way_sg h w.head).app (R.walk_sg y _ (R.way_lt h w.head) w.tail)
/-! ## what is sure -/
def foldS (s : List Tx) (a : Tx) (ws : List Way) : Tx := ws.foldl (fun a w => lcp a (w.1 ++ s.getD w.2 [])) a
theorem foldS_pre (s : List Tx) : ∀ (ws : List Way) (a : Tx), foldS s a ws <+: a
  | [], a => List.prefix_rfl
  | w :: ws, a => (foldS_pre s ws _).trans (lcp_left _ _)
theorem foldS_way (s : List Tx) : ∀ (ws : List Way) (a : Tx), ∀ w ∈ ws, foldS s a ws <+: w.1 ++ s.getD w.2 []
  | [], a, w, h => by cases h
  | v :: ws, a, w, h => by
    rcases List.mem_cons.mp h with e | e
    · subst e
      exact (foldS_pre s ws _).trans (lcp_right _ _)
    · exact foldS_way s ws _ w e
theorem foldS_max (s : List Tx) (t : Tx) : ∀ (ws : List Way) (a : Tx), t <+: a → (∀ w ∈ ws, t <+: w.1 ++ s.getD w.2 []) → t <+: foldS s a ws
  | [], a, h, _ => h
  | w :: ws, a, h, k => foldS_max s t ws _ (lcp_max _ _ _ h (k w List.mem_cons_self)) fun v hv => k v (List.mem_cons_of_mem _ hv)
theorem foldS_snoc (s : List Tx) (a : Tx) (ws : List Way) (w : Way) : foldS s a (ws ++ [w]) = lcp (foldS s a ws) (w.1 ++ s.getD w.2 []) := by
  unfold foldS
  rw [List.foldl_append]
  rfl
/-- t begins all rows from room k on -/
def AllPre (ls : Tx) (rs : List Rm) (k : Nat) (t : Tx) : Prop := ∀ y, Wd ls y → t <+: rowF ls rs k y
/-- the state of the search for what is sure: from above -/
structure SInv (ls : Tx) (rs : List Rm) (s : List Tx) : Prop where
  len : s.length = rs.length
  pre : ∀ k, k < rs.length → s.getD k [] <+: endAt rs k
  up : ∀ k, k < rs.length → ∀ t, AllPre ls rs k t → t <+: s.getD k []
def total (s : List Tx) : Nat := (s.map List.length).sum
theorem SInv.start : SInv ls rs (rs.map (·.1)) where
  len := by simp
  pre := fun k h => by
    have e : (rs.map (·.1)).getD k [] = endAt rs k := by
      unfold endAt
      rw [List.getD_eq_getElem?_getD, List.getD_eq_getElem?_getD, List.getElem?_map, List.getElem?_eq_getElem h]
      rfl
    rw [e]
    exact List.prefix_rfl
  up := fun k h t ht => by
    have e : (rs.map (·.1)).getD k [] = endAt rs k := by
      unfold endAt
      rw [List.getD_eq_getElem?_getD, List.getD_eq_getElem?_getD, List.getElem?_map, List.getElem?_eq_getElem h]
      rfl
    rw [e]
    exact ht [] Wd.nil
/-- what begins a text and each of some texts behind it -/
theorem pre_split {t x : Tx} (h : t <+: x) : ∀ {y : Tx}, t <+: x ++ y := fun {y} => h.trans (List.prefix_append x y)
theorem pre_app {t x s : Tx} {P : Tx → Prop} (hex : ∃ r, P r) (h : ∀ r, P r → t <+: x ++ r) (up : ∀ u, (∀ r, P r → u <+: r) → u <+: s) : t <+: x ++ s := by
  by_cases hl : t.length ≤ x.length
  · obtain ⟨r, hr⟩ := hex
    exact pre_split (List.prefix_of_prefix_length_le (h r hr) (List.prefix_append x r) hl)
  · obtain ⟨r, hr⟩ := hex
    obtain ⟨u, rfl⟩ := List.prefix_of_prefix_length_le (List.prefix_append x r) (h r hr) (by omega)
    exact (List.prefix_append_right_inj x).mpr (up u fun r' hr' => (List.prefix_append_right_inj x).mp (h r' hr'))
theorem SInv.turn (L : LOk ls) (R : ROk ls B rs) {s : List Tx} (I : SInv ls rs s) {k : Nat} (hk : k < rs.length) : SInv ls rs (s.set k (foldS s (s.getD k []) (waysAt rs k))) where
  len := by rw [List.length_set]; exact I.len
  pre := fun j hj => by
    by_cases e : j = k
    · subst e
      rw [List.getD_eq_getElem?_getD, List.getElem?_set_self (by rw [I.len]; exact hj)]
      exact (foldS_pre _ _ _).trans (I.pre j hj)
    · rw [List.getD_eq_getElem?_getD, List.getElem?_set_ne (Ne.symm e), ← List.getD_eq_getElem?_getD]
      exact I.pre j hj
  up := fun j hj t ht => by
    by_cases e : j = k
    · subst e
      rw [List.getD_eq_getElem?_getD, List.getElem?_set_self (by rw [I.len]; exact hj)]
      refine foldS_max _ _ _ _ (I.up j hj t ht) fun w hw => ?_
      obtain ⟨c, hc, rfl⟩ := way_of_mem L (R.room_at hj).2.2.1 hw
      refine pre_app (P := fun r => ∃ y, Wd ls y ∧ r = rowF ls rs (wayAt ls rs j c).2 y) ⟨_, [], Wd.nil, rfl⟩ ?_ ?_
      · rintro r ⟨y, hy, rfl⟩
        rw [← rowF_cons]
        exact ht _ (Wd.cons hc hy)
      · intro u hu
        exact I.up _ (R.way_lt hj hc) u fun y hy => hu _ ⟨y, hy, rfl⟩
    · rw [List.getD_eq_getElem?_getD, List.getElem?_set_ne (Ne.symm e), ← List.getD_eq_getElem?_getD]
      exact I.up j hj t ht
/-- what is sure from each room on, found -/
structure Sures (ls : Tx) (rs : List Rm) (s : List Tx) : Prop where
  len : s.length = rs.length
  pre : ∀ k, k < rs.length → s.getD k [] <+: endAt rs k
  low : ∀ k, k < rs.length → AllPre ls rs k (s.getD k [])
  up : ∀ k, k < rs.length → ∀ t, AllPre ls rs k t → t <+: s.getD k []
theorem SInv.done (L : LOk ls) (R : ROk ls B rs) {s : List Tx} (I : SInv ls rs s) (fix : ∀ k, k < rs.length → foldS s (s.getD k []) (waysAt rs k) = s.getD k []) : Sures ls rs s where
  len := I.len
  pre := I.pre
  up := I.up
  low := fun k hk y => by
    induction y generalizing k with
    | nil => intro _; exact I.pre k hk
    | cons c y ih =>
      intro w
      rw [rowF_cons]
      have h1 := foldS_way s (waysAt rs k) (s.getD k []) _ (R.way_mem hk w.head)
      rw [fix k hk] at h1
      exact h1.trans ((List.prefix_append_right_inj _).mpr (ih _ (R.way_lt hk w.head) w.tail))
theorem total_set {s : List Tx} {k : Nat} (hk : k < s.length) (t : Tx) : total (s.set k t) + (s.getD k []).length = total s + t.length := by
  induction s generalizing k with
  | nil => cases hk
  | cons a s ih =>
    cases k with
    | zero =>
      show ((t :: s).map List.length).sum + a.length = ((a :: s).map List.length).sum + t.length
      simp only [List.map_cons, List.sum_cons]
      omega
    | succ k =>
      have h := ih (k := k) (by simpa using hk)
      show ((a :: s.set k t).map List.length).sum + (s.getD k []).length = ((a :: s).map List.length).sum + t.length
      simp only [List.map_cons, List.sum_cons]
      unfold total at h
      omega
theorem pre_lt {a b : Tx} (h : a <+: b) (ne : a ≠ b) : a.length < b.length := by
  have h1 := h.length_le
  by_cases e : a.length = b.length
  · exact absurd (h.eq_of_length e) ne
  · omega
/-! ## told early -/
def earlyRoom (s : List Tx) (k : Nat) (r : Rm) : Rm := (r.1.drop (s.getD k []).length, r.2.map fun w => ((w.1 ++ s.getD w.2 []).drop (s.getD k []).length, w.2))
def early (s : List Tx) (rs : List Rm) : List Rm := rs.mapIdx (fun k r => earlyRoom s k r)
theorem early_len (s : List Tx) : (early s rs).length = rs.length := by unfold early; simp
theorem early_at (s : List Tx) {k : Nat} (h : k < rs.length) : (early s rs).getD k ([], []) = earlyRoom s k (rs.getD k ([], [])) := by
  unfold early
  rw [List.getD_eq_getElem?_getD, List.getElem?_mapIdx, List.getElem?_eq_getElem h, List.getD_eq_getElem?_getD, List.getElem?_eq_getElem h]
  rfl
theorem early_end (s : List Tx) {k : Nat} (h : k < rs.length) : endAt (early s rs) k = (endAt rs k).drop (s.getD k []).length := by
  unfold endAt; rw [early_at s h]; rfl
theorem early_ways (s : List Tx) {k : Nat} (h : k < rs.length) : waysAt (early s rs) k = (waysAt rs k).map fun w => ((w.1 ++ s.getD w.2 []).drop (s.getD k []).length, w.2) := by
  unfold waysAt; rw [early_at s h]; rfl
theorem early_way (R : ROk ls B rs) (s : List Tx) {k c : Nat} (h : k < rs.length) (hc : c ∈ ls) :
    wayAt ls (early s rs) k c = (((wayAt ls rs k c).1 ++ s.getD (wayAt ls rs k c).2 []).drop (s.getD k []).length, (wayAt ls rs k c).2) := by
  unfold wayAt
  rw [early_ways s h]
  have hi : ls.idxOf c < (waysAt rs k).length := by rw [(R.room_at h).2.2.1]; exact List.idxOf_lt_length_iff.mpr hc
  have e1 : (waysAt rs k).getD (ls.idxOf c) ([], 0) = (waysAt rs k)[ls.idxOf c] := getD_of (List.getElem?_eq_getElem hi)
  rw [e1]
  exact getD_of (by rw [List.getElem?_map, List.getElem?_eq_getElem hi]; rfl)
theorem early_row (R : ROk ls B rs) {s : List Tx} (S : Sures ls rs s) : ∀ (y : Tx) (k : Nat), k < rs.length → Wd ls y → s.getD k [] ++ rowF ls (early s rs) k y = rowF ls rs k y
  | [], k, h, _ => by
    rw [rowF_nil, rowF_nil, early_end s h]
    exact pre_drop (S.pre k h)
  | c :: y, k, h, w => by
    rw [rowF_cons, rowF_cons, early_way R s h w.head]
    have hl := R.way_lt h w.head
    have ih := early_row R S y _ hl w.tail
    have hp : s.getD k [] <+: (wayAt ls rs k c).1 ++ s.getD (wayAt ls rs k c).2 [] := by
      refine pre_app (P := fun r => ∃ y, Wd ls y ∧ r = rowF ls rs (wayAt ls rs k c).2 y) ⟨_, [], Wd.nil, rfl⟩ ?_ ?_
      · rintro r ⟨y, hy, rfl⟩
        rw [← rowF_cons]
        exact S.low k h _ (Wd.cons w.head hy)
      · intro u hu
        exact S.up _ hl u fun y hy => hu _ ⟨y, hy, rfl⟩
    show s.getD k [] ++ (((wayAt ls rs k c).1 ++ s.getD (wayAt ls rs k c).2 []).drop (s.getD k []).length ++ rowF ls (early s rs) (wayAt ls rs k c).2 y) = _
    rw [← List.append_assoc, pre_drop hp, List.append_assoc, ih]
theorem early_walk (R : ROk ls B rs) (s : List Tx) : ∀ (y : Tx) (k : Nat), k < rs.length → Wd ls y → (walkF ls (early s rs) k y).2 = (walkF ls rs k y).2
  | [], k, h, _ => rfl
  | c :: y, k, h, w => by
    show (walkF ls (early s rs) (wayAt ls (early s rs) k c).2 y).2 = (walkF ls rs (wayAt ls rs k c).2 y).2
    rw [early_way R s h w.head]
    exact early_walk R s y _ (R.way_lt h w.head) w.tail
/-- nothing more is sure -/
def Tight (ls : Tx) (rs : List Rm) : Prop := ∀ k, k < rs.length → ∀ t, AllPre ls rs k t → t = []
theorem early_tight (R : ROk ls B rs) {s : List Tx} (S : Sures ls rs s) : Tight ls (early s rs) := fun k h t ht => by
  rw [early_len] at h
  have h1 : s.getD k [] ++ t <+: s.getD k [] := S.up k h _ fun y hy => by
    rw [← early_row R S y k h hy]
    exact (List.prefix_append_right_inj _).mpr (ht y hy)
  have h2 := h1.length_le
  rw [List.length_append] at h2
  exact List.eq_nil_of_length_eq_zero (by omega)
theorem Sures.len_le (R : ROk ls B rs) {s : List Tx} (S : Sures ls rs s) {k : Nat} (h : k < rs.length) : (s.getD k []).length ≤ B := Nat.le_trans (S.pre k h).length_le (R.room_at h).2.1
theorem Sures.sg (R : ROk ls B rs) {s : List Tx} (S : Sures ls rs s) {k : Nat} (h : k < rs.length) : SgT (s.getD k []) := (R.room_at h).1.pre (S.pre k h)
theorem early_ok (R : ROk ls B rs) {s : List Tx} (S : Sures ls rs s) : ROk ls (B + B) (early s rs) where
  pos := by rw [early_len]; exact R.pos
  le := by rw [early_len]; exact R.le
  room := fun r hr => by
    obtain ⟨k, hk, rfl⟩ := List.mem_iff_getElem.mp hr
    rw [early_len] at hk
    have e : (early s rs)[k]'(by rw [early_len]; exact hk) = earlyRoom s k (rs.getD k ([], [])) := by
      rw [← early_at s hk, List.getD_eq_getElem?_getD, List.getElem?_eq_getElem (by rw [early_len]; exact hk)]
      rfl
    rw [e, early_len]
    obtain ⟨r1, r2, r3, r4⟩ := R.room_at hk
    refine ⟨SgT.drop r1 _, ?_, ?_, fun w hw => ?_⟩
    · show ((rs.getD k ([], [])).1.drop _).length ≤ _
      rw [List.length_drop]
      have : (rs.getD k ([], [])).1.length ≤ B := r2
      omega
    · show ((rs.getD k ([], [])).2.map _).length = _
      rw [List.length_map]
      exact r3
    · obtain ⟨v, hv, rfl⟩ := List.mem_map.mp hw
      obtain ⟨v1, v2, v3⟩ := r4 v hv
      refine ⟨(v1.app (S.sg R v3)).drop _, ?_, v3⟩
      show ((v.1 ++ s.getD v.2 []).drop _).length ≤ _
      rw [List.length_drop, List.length_append]
      have := S.len_le R v3
      omega
end
end K70
namespace K70
/-! ## first appearances -/
section
variable {α : Type} [DecidableEq α]
theorem nodup_one (x : α) : [x].Nodup := by simp
def ix (l : List α) (x : α) : Nat := l.idxOf x
def firsts (l : List α) : List α := l.foldl (fun acc x => if x ∈ acc then acc else acc ++ [x]) []
theorem firsts_snoc (l : List α) (x : α) : firsts (l ++ [x]) = if x ∈ firsts l then firsts l else firsts l ++ [x] := by
  unfold firsts
  rw [List.foldl_append]
  rfl
theorem rev_ind {P : List α → Prop} (h0 : P []) (hs : ∀ l x, P l → P (l ++ [x])) (l : List α) : P l := by
  have h : ∀ r : List α, P r.reverse := by
    intro r
    induction r with
    | nil => exact h0
    | cons x r ih =>
      rw [List.reverse_cons]
      exact hs _ _ ih
  have h2 := h l.reverse
  rw [List.reverse_reverse] at h2
  exact h2
theorem mem_firsts (l : List α) : ∀ x, x ∈ firsts l ↔ x ∈ l := by
  refine rev_ind (P := fun l => ∀ x, x ∈ firsts l ↔ x ∈ l) (fun x => Iff.rfl) (fun l x ih z => ?_) l
  rw [firsts_snoc]
  by_cases h : x ∈ firsts l
  · rw [if_pos h, List.mem_append, ih z]
    constructor
    · exact fun q => .inl q
    · rintro (q | q)
      · exact q
      · rw [List.mem_singleton.mp q, ← ih x]
        exact h
  · rw [if_neg h, List.mem_append, List.mem_append, ih z]
theorem nodup_firsts (l : List α) : (firsts l).Nodup := by
  refine rev_ind (P := fun l => (firsts l).Nodup) List.nodup_nil (fun l x ih => ?_) l
  rw [firsts_snoc]
  by_cases h : x ∈ firsts l
  · rw [if_pos h]; exact ih
  · rw [if_neg h]
    rw [List.nodup_append]
    refine ⟨ih, nodup_one x, fun a ha b hb e => ?_⟩
    rw [List.mem_singleton.mp hb] at e
    exact h (e ▸ ha)
theorem firsts_len (l : List α) : (firsts l).length ≤ l.length := by
  refine rev_ind (P := fun l => (firsts l).length ≤ l.length) (Nat.le_refl _) (fun l x ih => ?_) l
  rw [firsts_snoc]
  split <;> simp <;> omega
/-- each item's number by first appearance -/
def nums (l : List α) : List Nat := l.map fun x => ix (firsts l) x
theorem nums_len (l : List α) : (nums l).length = l.length := by unfold nums; simp
theorem idxOf_app {l r : List α} {x : α} (h : x ∈ l) : ix (l ++ r) x = ix l x := by
  unfold ix
  rw [List.idxOf_append, if_pos h]
theorem nums_snoc (l : List α) (x : α) : nums (l ++ [x]) = nums l ++ [ix (firsts (l ++ [x])) x] := by
  unfold nums
  rw [List.map_append, List.map_singleton]
  congr 1
  refine List.map_congr_left fun y hy => ?_
  rw [firsts_snoc]
  by_cases h : x ∈ firsts l
  · rw [if_pos h]
  · rw [if_neg h, idxOf_app ((mem_firsts l y).mpr hy)]
theorem nums_at {l : List α} {i : Nat} {x : α} (h : l[i]? = some x) : (nums l).getD i 0 = ix (firsts l) x := by
  refine getD_of ?_
  unfold nums
  rw [List.getElem?_map, h]
  rfl
theorem ix_lt {l : List α} {x : α} (h : x ∈ l) : ix l x < l.length := List.idxOf_lt_length_iff.mpr h
theorem ix_get {l : List α} {x : α} (h : x ∈ l) : l[ix l x]? = some x := by
  rw [List.getElem?_eq_getElem (ix_lt h)]
  exact congrArg some (List.getElem_idxOf (ix_lt h))
theorem ix_at {l : List α} (nd : l.Nodup) {i : Nat} (h : i < l.length) : ix l l[i] = i := List.Nodup.idxOf_getElem nd i h
theorem idxOf_inj' {l : List α} {x y : α} (hx : x ∈ l) (e : ix l x = ix l y) : x = y := by
  unfold ix at e
  have h1 : l.idxOf x < l.length := List.idxOf_lt_length_iff.mpr hx
  have h2 : l.idxOf y < l.length := by rw [← e]; exact h1
  have e1 := List.getElem_idxOf h1
  have e2 := List.getElem_idxOf h2
  rw [← e1, ← e2]
  congr 1
end
/-! ## kinds -/
section
variable {ls : Tx} {B : Nat} {rs : List Rm}
/-- two rooms from which all rows are alike -/
def RowsEq (ls : Tx) (rs : List Rm) (i j : Nat) : Prop := ∀ y, Wd ls y → rowF ls rs i y = rowF ls rs j y
theorem RowsEq.symm {i j : Nat} (h : RowsEq ls rs i j) : RowsEq ls rs j i := fun y w => (h y w).symm
theorem tight_core {t u : Tx} {a b : Nat} (T : Tight ls rs) (ha : a < rs.length) (h : ∀ y, Wd ls y → t ++ rowF ls rs a y = u ++ rowF ls rs b y) (hl : t.length ≤ u.length) : t = u ∧ RowsEq ls rs a b := by
  have h0 := h [] Wd.nil
  have hp : t <+: u := by
    refine List.prefix_of_prefix_length_le (List.prefix_append t (rowF ls rs a [])) ?_ hl
    rw [h0]
    exact List.prefix_append u _
  obtain ⟨v, rfl⟩ := hp
  have hv : ∀ y, Wd ls y → rowF ls rs a y = v ++ rowF ls rs b y := fun y w => by
    have := h y w
    rw [List.append_assoc] at this
    exact List.append_cancel_left this
  have ev : v = [] := T a ha v fun y w => by
    rw [hv y w]
    exact List.prefix_append v _
  subst ev
  exact ⟨by simp, fun y w => hv y w⟩
theorem tight_way (T : Tight ls rs) (R : ROk ls B rs) {i j c : Nat} (hi : i < rs.length) (hj : j < rs.length) (hc : c ∈ ls) (e : RowsEq ls rs i j) :
    (wayAt ls rs i c).1 = (wayAt ls rs j c).1 ∧ RowsEq ls rs (wayAt ls rs i c).2 (wayAt ls rs j c).2 := by
  have h : ∀ y, Wd ls y → (wayAt ls rs i c).1 ++ rowF ls rs (wayAt ls rs i c).2 y = (wayAt ls rs j c).1 ++ rowF ls rs (wayAt ls rs j c).2 y := fun y w => by
    rw [← rowF_cons, ← rowF_cons]
    exact e _ (Wd.cons hc w)
  by_cases hl : (wayAt ls rs i c).1.length ≤ (wayAt ls rs j c).1.length
  · exact tight_core T (R.way_lt hi hc) h hl
  · have h2 := tight_core T (R.way_lt hj hc) (fun y w => (h y w).symm) (by omega)
    exact ⟨h2.1.symm, h2.2.symm⟩
abbrev Mark := Tx × List (Tx × Nat)
def markOf (kd : List Nat) (r : Rm) : Mark := (r.1, r.2.map fun w => (w.1, kd.getD w.2 0))
def marks (kd : List Nat) (rs : List Rm) : List Mark := rs.map (markOf kd)
def markAt (kd : List Nat) (rs : List Rm) (i : Nat) : Mark := markOf kd (rs.getD i ([], []))
theorem mark_end {kd : List Nat} {i j : Nat} (e : markAt kd rs i = markAt kd rs j) : endAt rs i = endAt rs j := by
  have h := congrArg (fun z : Mark => z.1) e
  exact h
theorem marks_at (kd : List Nat) {i : Nat} (h : i < rs.length) : (marks kd rs)[i]? = some (markAt kd rs i) := by
  unfold marks markAt
  rw [List.getElem?_map, List.getElem?_eq_getElem h, List.getD_eq_getElem?_getD, List.getElem?_eq_getElem h]
  rfl
theorem mark_way (R : ROk ls B rs) (kd : List Nat) {i c : Nat} (h : i < rs.length) (hc : c ∈ ls) : (markAt kd rs i).2.getD (ls.idxOf c) ([], 0) = ((wayAt ls rs i c).1, kd.getD (wayAt ls rs i c).2 0) := by
  have hl : ls.idxOf c < (waysAt rs i).length := by rw [(R.room_at h).2.2.1]; exact List.idxOf_lt_length_iff.mpr hc
  have e1 : wayAt ls rs i c = (waysAt rs i)[ls.idxOf c] := getD_of (List.getElem?_eq_getElem hl)
  rw [e1]
  exact getD_of (by show ((waysAt rs i).map _)[_]? = _; rw [List.getElem?_map, List.getElem?_eq_getElem hl]; rfl)
theorem mark_eq_of (R : ROk ls B rs) (L : LOk ls) (kd : List Nat) {i j : Nat} (hi : i < rs.length) (hj : j < rs.length) (he : endAt rs i = endAt rs j)
    (hw : ∀ c ∈ ls, (wayAt ls rs i c).1 = (wayAt ls rs j c).1 ∧ kd.getD (wayAt ls rs i c).2 0 = kd.getD (wayAt ls rs j c).2 0) : markAt kd rs i = markAt kd rs j := by
  refine Prod.ext he (List.ext_getElem? fun n => ?_)
  have l1 : (markAt kd rs i).2.length = ls.length := by show ((waysAt rs i).map _).length = _; rw [List.length_map]; exact (R.room_at hi).2.2.1
  have l2 : (markAt kd rs j).2.length = ls.length := by show ((waysAt rs j).map _).length = _; rw [List.length_map]; exact (R.room_at hj).2.2.1
  by_cases hn : n < ls.length
  · have hc := hw ls[n] (List.getElem_mem hn)
    have m1 := mark_way R kd hi (List.getElem_mem hn)
    have m2 := mark_way R kd hj (List.getElem_mem hn)
    rw [List.Nodup.idxOf_getElem L.nd n hn] at m1 m2
    rw [List.getD_eq_getElem?_getD, List.getElem?_eq_getElem (by omega)] at m1 m2
    rw [List.getElem?_eq_getElem (by omega), List.getElem?_eq_getElem (by omega)]
    congr 1
    refine m1.trans (Eq.trans ?_ m2.symm)
    rw [hc.1, hc.2]
  · rw [List.getElem?_eq_none (by omega), List.getElem?_eq_none (by omega)]
theorem mark_eq_way (R : ROk ls B rs) (kd : List Nat) {i j c : Nat} (hi : i < rs.length) (hj : j < rs.length) (hc : c ∈ ls) (e : markAt kd rs i = markAt kd rs j) :
    (wayAt ls rs i c).1 = (wayAt ls rs j c).1 ∧ kd.getD (wayAt ls rs i c).2 0 = kd.getD (wayAt ls rs j c).2 0 := by
  have m1 := mark_way R kd hi hc
  have m2 := mark_way R kd hj hc
  rw [e, m2] at m1
  exact ⟨(congrArg Prod.fst m1).symm, (congrArg Prod.snd m1).symm⟩
def found (kd : List Nat) (rs : List Rm) : List Nat := nums (marks kd rs)
def count (kd : List Nat) (rs : List Rm) : Nat := (firsts (marks kd rs)).length
theorem found_len (kd : List Nat) : (found kd rs).length = rs.length := by unfold found marks; rw [nums_len, List.length_map]
theorem found_at (kd : List Nat) {i : Nat} (h : i < rs.length) : (found kd rs).getD i 0 = ix (firsts (marks kd rs)) (markAt kd rs i) := nums_at (marks_at kd h)
theorem mark_mem (kd : List Nat) {i : Nat} (h : i < rs.length) : markAt kd rs i ∈ firsts (marks kd rs) := (mem_firsts _ _).mpr (List.mem_of_getElem? (marks_at kd h))
theorem found_eq (kd : List Nat) {i j : Nat} (hi : i < rs.length) (hj : j < rs.length) : (found kd rs).getD i 0 = (found kd rs).getD j 0 ↔ markAt kd rs i = markAt kd rs j := by
  rw [found_at kd hi, found_at kd hj]
  exact ⟨fun e => idxOf_inj' (mark_mem kd hi) e, fun e => by rw [e]⟩
theorem found_lt (kd : List Nat) {i : Nat} (h : i < rs.length) : (found kd rs).getD i 0 < count kd rs := by
  rw [found_at kd h]
  exact ix_lt (mark_mem kd h)
theorem found_on (kd : List Nat) {v : Nat} (h : v < count kd rs) : ∃ i, i < rs.length ∧ (found kd rs).getD i 0 = v := by
  have hm : (firsts (marks kd rs))[v]'h ∈ marks kd rs := (mem_firsts _ _).mp (List.getElem_mem h)
  obtain ⟨i, hi, e⟩ := List.mem_iff_getElem.mp hm
  have hi2 : i < rs.length := by unfold marks at hi; simpa using hi
  refine ⟨i, hi2, ?_⟩
  have e2 : (marks kd rs)[i]? = some ((firsts (marks kd rs))[v]'h) := by rw [List.getElem?_eq_getElem hi, e]
  unfold found
  rw [nums_at e2]
  exact ix_at (nodup_firsts _) h
theorem count_le (kd : List Nat) : count kd rs ≤ rs.length := by
  have := firsts_len (marks kd rs)
  unfold marks at this
  rw [List.length_map] at this
  exact this
structure KInv (ls : Tx) (rs : List Rm) (kd : List Nat) (many : Nat) : Prop where
  len : kd.length = rs.length
  coarse : ∀ i j, i < rs.length → j < rs.length → RowsEq ls rs i j → kd.getD i 0 = kd.getD j 0
  ref : ∀ i j, i < rs.length → j < rs.length → markAt kd rs i = markAt kd rs j → kd.getD i 0 = kd.getD j 0
  cnt : many = 0 ∨ ((∀ i, i < rs.length → kd.getD i 0 < many) ∧ ∀ v, v < many → ∃ i, i < rs.length ∧ kd.getD i 0 = v)
theorem KInv.start : KInv ls rs (rs.map fun _ => 0) 0 := by
  have z : ∀ i, (rs.map fun _ => 0).getD i 0 = 0 := fun i => by
    rw [List.getD_eq_getElem?_getD, List.getElem?_map]
    cases rs[i]? <;> rfl
  exact ⟨by simp, fun i j _ _ _ => by rw [z, z], fun i j _ _ _ => by rw [z, z], .inl rfl⟩
theorem KInv.turn {kd : List Nat} {many : Nat} (T : Tight ls rs) (R : ROk ls B rs) (L : LOk ls) (I : KInv ls rs kd many) : KInv ls rs (found kd rs) (count kd rs) where
  len := found_len kd
  coarse := fun i j hi hj e => (found_eq kd hi hj).mpr (mark_eq_of R L kd hi hj (e [] Wd.nil) fun c hc => by
    have h := tight_way T R hi hj hc e
    exact ⟨h.1, I.coarse _ _ (R.way_lt hi hc) (R.way_lt hj hc) h.2⟩)
  ref := fun i j hi hj e => (found_eq kd hi hj).mpr (mark_eq_of R L kd hi hj (mark_end e) fun c hc => by
    have h := mark_eq_way R _ hi hj hc e
    have h2 := (found_eq kd (R.way_lt hi hc) (R.way_lt hj hc)).mp h.2
    exact ⟨h.1, I.ref _ _ (R.way_lt hi hc) (R.way_lt hj hc) h2⟩)
  cnt := .inr ⟨fun i hi => found_lt kd hi, fun v hv => found_on kd hv⟩
/-- the kinds: alike just where all rows are -/
structure Kinds (ls : Tx) (rs : List Rm) (kd : List Nat) : Prop where
  len : kd.length = rs.length
  iff : ∀ i j, i < rs.length → j < rs.length → (kd.getD i 0 = kd.getD j 0 ↔ RowsEq ls rs i j)
theorem count_pos (R : ROk ls B rs) (kd : List Nat) : 0 < count kd rs := Nat.lt_of_le_of_lt (Nat.zero_le _) (found_lt kd R.pos)
/-- each kind found anew lies within one kind -/
theorem KInv.onto {kd : List Nat} {many : Nat} (I : KInv ls rs kd many) (h0 : many ≠ 0) : ∃ g : Nat → Nat, (∀ i, i < rs.length → g ((found kd rs).getD i 0) = kd.getD i 0) ∧ ∀ v, v < many → ∃ u, u < count kd rs ∧ g u = v := by
  obtain ⟨c1, c2⟩ := I.cnt.resolve_left h0
  have hex : ∀ u, ∃ v, ∀ i, i < rs.length → (found kd rs).getD i 0 = u → kd.getD i 0 = v := fun u => by
    by_cases hu : u < count kd rs
    · obtain ⟨j, hj, ej⟩ := found_on kd hu
      exact ⟨kd.getD j 0, fun i hi ei => I.ref i j hi hj ((found_eq kd hi hj).mp (ei.trans ej.symm))⟩
    · exact ⟨0, fun i hi ei => absurd (found_lt kd hi) (by omega)⟩
  obtain ⟨g, hg⟩ := Classical.axiomOfChoice hex
  refine ⟨g, fun i hi => (hg _ i hi rfl).symm, fun v hv => ?_⟩
  obtain ⟨i, hi, ei⟩ := c2 v hv
  exact ⟨_, found_lt kd hi, (hg _ i hi rfl).symm.trans ei⟩
theorem onto_le {c d : Nat} (g : Nat → Nat) (on : ∀ v, v < d → ∃ u, u < c ∧ g u = v) : d ≤ c := by
  have on' : ∀ v, ∃ u, v < d → u < c ∧ g u = v := fun v => by
    by_cases h : v < d
    · obtain ⟨u, hu⟩ := on v h
      exact ⟨u, fun _ => hu⟩
    · exact ⟨0, fun q => absurd q h⟩
  obtain ⟨f, hf⟩ := Classical.axiomOfChoice on'
  have nd : ((List.range d).map f).Nodup := by
    unfold List.Nodup
    rw [List.pairwise_map]
    refine (List.nodup_range (n := d)).imp_of_mem ?_
    intro a b ha hb hab q
    have ha' := (hf a (List.mem_range.mp ha)).2
    have hb' := (hf b (List.mem_range.mp hb)).2
    exact hab (by rw [← ha', ← hb', q])
  have h := nodup_le c _ nd (by
    intro x hx
    obtain ⟨a, ha, rfl⟩ := List.mem_map.mp hx
    exact (hf a (List.mem_range.mp ha)).1)
  simpa using h
theorem KInv.grows {kd : List Nat} {many : Nat} (R : ROk ls B rs) (I : KInv ls rs kd many) (ne : count kd rs ≠ many) : many < count kd rs := by
  by_cases h0 : many = 0
  · rw [h0]; exact count_pos R kd
  · obtain ⟨g, _, on⟩ := I.onto h0
    have := onto_le g on
    omega
theorem KInv.done {kd : List Nat} {many : Nat} (T : Tight ls rs) (R : ROk ls B rs) (L : LOk ls) (I : KInv ls rs kd many) (e : count kd rs = many) : Kinds ls rs (found kd rs) := by
  have J := I.turn T R L
  have h0 : many ≠ 0 := by
    have := count_pos R kd
    omega
  obtain ⟨g, hg, on⟩ := I.onto h0
  rw [← e] at on
  have up : ∀ i j, i < rs.length → j < rs.length → kd.getD i 0 = kd.getD j 0 → (found kd rs).getD i 0 = (found kd rs).getD j 0 := fun i j hi hj q =>
    onto_inj g on (found_lt kd hi) (found_lt kd hj) (by rw [hg i hi, hg j hj, q])
  refine ⟨J.len, fun i j hi hj => ⟨fun q y w => ?_, fun q => J.coarse i j hi hj q⟩⟩
  induction y generalizing i j with
  | nil => exact mark_end ((found_eq kd hi hj).mp q)
  | cons c y ih =>
    rw [rowF_cons, rowF_cons]
    have h := mark_eq_way R kd hi hj w.head ((found_eq kd hi hj).mp q)
    have hi2 := R.way_lt hi w.head
    have hj2 := R.way_lt hj w.head
    rw [h.1, ih _ _ hi2 hj2 (up _ _ hi2 hj2 h.2) w.tail]
/-! ## rooms numbered anew -/
def kindsOf (kd order : List Nat) : List Nat := order.map fun k => kd.getD k 0
structure NInv (rs : List Rm) (kd order : List Nat) (at_ : Nat) : Prop where
  head : order[0]? = some 0
  lt : ∀ k ∈ order, k < rs.length
  nd : (kindsOf kd order).Nodup
  closed : ∀ i, i < at_ → ∀ k, order[i]? = some k → ∀ w ∈ waysAt rs k, kd.getD w.2 0 ∈ kindsOf kd order
  le : at_ ≤ order.length
theorem NInv.start {kd : List Nat} (R : ROk ls B rs) : NInv rs kd [0] 0 :=
  ⟨rfl, fun k h => by rw [List.mem_singleton.mp h]; exact R.pos, nodup_one _, fun i h => absurd h (Nat.not_lt_zero _), Nat.zero_le _⟩
theorem NInv.len_le {kd order : List Nat} {at_ : Nat} (I : NInv rs kd order at_) : order.length ≤ rs.length := by
  refine nodup_le _ _ ?_ I.lt
  have h := I.nd
  unfold kindsOf List.Nodup at h
  rw [List.pairwise_map] at h
  exact h.imp fun q e => q (by rw [e])
def addK (kd order : List Nat) (k : Nat) : List Nat := if kd.getD k 0 ∈ kindsOf kd order then order else order ++ [k]
theorem addK_pre (kd order : List Nat) (k : Nat) : order <+: addK kd order k := by
  unfold addK
  split
  · exact List.prefix_rfl
  · exact List.prefix_append _ _
theorem addK_mem (kd order : List Nat) (k : Nat) : kd.getD k 0 ∈ kindsOf kd (addK kd order k) := by
  unfold addK
  split
  · assumption
  · unfold kindsOf
    simp
theorem kindsOf_pre {kd a b : List Nat} (h : a <+: b) : kindsOf kd a <+: kindsOf kd b := by
  obtain ⟨c, rfl⟩ := h
  unfold kindsOf
  rw [List.map_append]
  exact List.prefix_append _ _
theorem NInv.add {kd order : List Nat} {at_ : Nat} (I : NInv rs kd order at_) {k : Nat} (hk : k < rs.length) : NInv rs kd (addK kd order k) at_ := by
  have p := addK_pre kd order k
  have get : ∀ i j, i < order.length → (addK kd order k)[i]? = some j → order[i]? = some j := fun i j hi e => by
    obtain ⟨r, e2⟩ := p
    rw [← e2, List.getElem?_append_left hi] at e
    exact e
  have h0 : 0 < order.length := by
    have := I.head
    cases order with
    | nil => cases this
    | cons a b => exact Nat.succ_pos _
  refine ⟨?_, fun j hj => ?_, ?_, fun i hi j hj w hw => ?_, Nat.le_trans I.le p.length_le⟩
  · obtain ⟨r, e2⟩ := p
    rw [← e2, List.getElem?_append_left h0]
    exact I.head
  · unfold addK at hj
    split at hj
    · exact I.lt j hj
    · rcases List.mem_append.mp hj with q | q
      · exact I.lt j q
      · rw [List.mem_singleton.mp q]; exact hk
  · unfold addK
    split
    · exact I.nd
    · rename_i hn
      unfold kindsOf at hn ⊢
      rw [List.map_append, List.nodup_append]
      refine ⟨I.nd, nodup_one _, fun a ha b hb e => ?_⟩
      rw [List.map_singleton, List.mem_singleton] at hb
      rw [hb] at e
      exact hn (e ▸ ha)
  · have hi2 : i < order.length := Nat.lt_of_lt_of_le hi I.le
    exact (kindsOf_pre p).subset (I.closed i hi j (get i j hi2 hj) w hw)
theorem NInv.next {kd order : List Nat} {at_ : Nat} (I : NInv rs kd order at_) {k : Nat} (hk : order[at_]? = some k) (h : ∀ w ∈ waysAt rs k, kd.getD w.2 0 ∈ kindsOf kd order) : NInv rs kd order (at_ + 1) := by
  refine ⟨I.head, I.lt, I.nd, fun i hi j hj w hw => ?_, (List.getElem?_eq_some_iff.mp hk).1⟩
  by_cases e : i = at_
  · subst e
    rw [hk] at hj
    cases hj
    exact h w hw
  · exact I.closed i (by omega) j hj w hw
/-! ## the least rooms -/
def idxK (kd order : List Nat) (k : Nat) : Nat := ix (kindsOf kd order) (kd.getD k 0)
def madeRoom (rs : List Rm) (kd order : List Nat) (k : Nat) : Rm := (endAt rs k, (waysAt rs k).map fun w => (w.1, idxK kd order w.2))
def made (rs : List Rm) (kd order : List Nat) : List Rm := order.map (madeRoom rs kd order)
theorem made_len (kd order : List Nat) : (made rs kd order).length = order.length := by unfold made; simp
theorem made_at (kd order : List Nat) {i k : Nat} (h : order[i]? = some k) : (made rs kd order).getD i ([], []) = madeRoom rs kd order k := by
  refine getD_of ?_
  unfold made
  rw [List.getElem?_map, h]
  rfl
/-- all is numbered -/
structure Numd (rs : List Rm) (kd order : List Nat) : Prop where
  head : order[0]? = some 0
  lt : ∀ k ∈ order, k < rs.length
  nd : (kindsOf kd order).Nodup
  closed : ∀ k ∈ order, ∀ w ∈ waysAt rs k, kd.getD w.2 0 ∈ kindsOf kd order
  len : order.length ≤ rs.length
theorem NInv.done {kd order : List Nat} {at_ : Nat} (I : NInv rs kd order at_) (h : order.length ≤ at_) : Numd rs kd order :=
  ⟨I.head, I.lt, I.nd, fun k hk => by
    obtain ⟨i, hi, rfl⟩ := List.mem_iff_getElem.mp hk
    exact I.closed i (by omega) _ (List.getElem?_eq_getElem hi), I.len_le⟩
section
variable {kd order : List Nat}
theorem idxK_lt {k : Nat} (h : kd.getD k 0 ∈ kindsOf kd order) : idxK kd order k < order.length := by
  have h1 : idxK kd order k < (kindsOf kd order).length := ix_lt h
  unfold kindsOf at h1
  rw [List.length_map] at h1
  exact h1
theorem idxK_at {k : Nat} (h : kd.getD k 0 ∈ kindsOf kd order) : ∃ r, order[idxK kd order k]? = some r ∧ kd.getD r 0 = kd.getD k 0 := by
  have h1 : (kindsOf kd order)[idxK kd order k]? = some (kd.getD k 0) := ix_get h
  have h2 : (order.map fun k => kd.getD k 0)[idxK kd order k]? = some (kd.getD k 0) := h1
  rw [List.getElem?_map] at h2
  exact Option.map_eq_some_iff.mp h2
theorem Numd.zero (N : Numd rs kd order) : kd.getD 0 0 ∈ kindsOf kd order ∧ idxK kd order 0 = 0 := by
  have h := N.head
  cases order with
  | nil => cases h
  | cons a b =>
    have e : a = 0 := Option.some.inj h
    subst e
    have hm : kindsOf kd (0 :: b) = kd.getD 0 0 :: kindsOf kd b := rfl
    refine ⟨by rw [hm]; exact List.mem_cons_self, ?_⟩
    show ix (kindsOf kd (0 :: b)) _ = 0
    rw [hm]
    exact List.idxOf_cons_self
theorem Numd.zero_iff (N : Numd rs kd order) (k : Nat) (h : kd.getD k 0 ∈ kindsOf kd order) : idxK kd order k = 0 ↔ kd.getD k 0 = kd.getD 0 0 := by
  constructor
  · intro e
    exact idxOf_inj' h (e.trans N.zero.2.symm)
  · intro e
    have e2 : idxK kd order k = idxK kd order 0 := by unfold idxK; rw [e]
    rw [e2, N.zero.2]
theorem Numd.sim (N : Numd rs kd order) (Ks : Kinds ls rs kd) (T : Tight ls rs) (R : ROk ls B rs) : ∀ (y : Tx) (k : Nat), k < rs.length → kd.getD k 0 ∈ kindsOf kd order → Wd ls y →
    rowF ls (made rs kd order) (idxK kd order k) y = rowF ls rs k y ∧ kd.getD (walkF ls rs k y).2 0 ∈ kindsOf kd order ∧ (walkF ls (made rs kd order) (idxK kd order k) y).2 = idxK kd order (walkF ls rs k y).2 := by
  intro y
  induction y with
  | nil =>
    intro k hk hm _
    obtain ⟨r, hr, er⟩ := idxK_at hm
    refine ⟨?_, hm, rfl⟩
    show endAt (made rs kd order) (idxK kd order k) = endAt rs k
    have e1 : endAt (made rs kd order) (idxK kd order k) = endAt rs r := by
      unfold endAt
      rw [made_at kd order hr]
      rfl
    rw [e1]
    exact (Ks.iff r k (N.lt r (List.mem_of_getElem? hr)) hk).mp er [] Wd.nil
  | cons c y ih =>
    intro k hk hm w
    obtain ⟨r, hr, er⟩ := idxK_at hm
    have hrl := N.lt r (List.mem_of_getElem? hr)
    have re := (Ks.iff r k hrl hk).mp er
    obtain ⟨tw, tr⟩ := tight_way T R hrl hk w.head re
    have hrl2 := R.way_lt hrl w.head
    have hkl2 := R.way_lt hk w.head
    have ek : kd.getD (wayAt ls rs r c).2 0 = kd.getD (wayAt ls rs k c).2 0 := (Ks.iff _ _ hrl2 hkl2).mpr tr
    have hm2 : kd.getD (wayAt ls rs k c).2 0 ∈ kindsOf kd order := by
      rw [← ek]
      exact N.closed r (List.mem_of_getElem? hr) _ (R.way_mem hrl w.head)
    have ew : wayAt ls (made rs kd order) (idxK kd order k) c = ((wayAt ls rs k c).1, idxK kd order (wayAt ls rs k c).2) := by
      have e1 : waysAt (made rs kd order) (idxK kd order k) = (waysAt rs r).map fun w => (w.1, idxK kd order w.2) := by
        show ((made rs kd order).getD _ _).2 = _
        rw [made_at kd order hr]
        rfl
      have hl : ls.idxOf c < (waysAt rs r).length := by rw [(R.room_at hrl).2.2.1]; exact List.idxOf_lt_length_iff.mpr w.head
      have e2 : wayAt ls rs r c = (waysAt rs r)[ls.idxOf c] := getD_of (List.getElem?_eq_getElem hl)
      have e3 : wayAt ls (made rs kd order) (idxK kd order k) c = ((wayAt ls rs r c).1, idxK kd order (wayAt ls rs r c).2) := by
        unfold wayAt at e2 ⊢
        rw [e1, e2]
        exact getD_of (by rw [List.getElem?_map, List.getElem?_eq_getElem hl]; rfl)
      rw [e3, tw]
      unfold idxK
      rw [ek]
    obtain ⟨i1, i2, i3⟩ := ih _ hkl2 hm2 w.tail
    refine ⟨?_, i2, ?_⟩
    · rw [rowF_cons, rowF_cons, ew]
      show _ ++ rowF ls (made rs kd order) (idxK kd order (wayAt ls rs k c).2) y = _
      rw [i1]
    · show (walkF ls (made rs kd order) (wayAt ls (made rs kd order) (idxK kd order k) c).2 y).2 = _
      rw [ew]
      exact i3
theorem Numd.ok (N : Numd rs kd order) (R : ROk ls B rs) : ROk ls B (made rs kd order) where
  pos := by
    rw [made_len]
    have h := N.head
    cases order with
    | nil => cases h
    | cons a b => exact Nat.succ_pos _
  le := by rw [made_len]; exact Nat.le_trans N.len R.le
  room := fun r hr => by
    obtain ⟨k, hk, rfl⟩ := List.mem_map.mp hr
    obtain ⟨r1, r2, r3, r4⟩ := R.room_at (N.lt k hk)
    refine ⟨r1, r2, by show ((waysAt rs k).map _).length = _; rw [List.length_map]; exact r3, fun w hw => ?_⟩
    obtain ⟨v, hv, rfl⟩ := List.mem_map.mp hw
    refine ⟨(r4 v hv).1, (r4 v hv).2.1, ?_⟩
    rw [made_len]
    exact idxK_lt (N.closed k hk v hv)
end
end
/-! ## seams -/
def IsSeam (m : M) (x : Tx) : Prop := ∀ y, Wd m.letters y → m.row (x ++ y) = m.row x ++ m.row y
/-- the room in which a word ends -/
def M.room (m : M) (x : Tx) : Nat := (walkF m.letters m.rooms 0 x).2
structure Least (m L : M) : Prop where
  letters : L.letters = m.letters
  row : ∀ y, Wd m.letters y → L.row y = m.row y
  zero : m.row [] = [] → ∀ x, Wd m.letters x → (L.room x = 0 ↔ IsSeam m x)
  len : L.rooms.length ≤ m.rooms.length
def leastM (m : M) (s : List Tx) (kd order : List Nat) : M := ⟨m.letters, made (early s m.rooms) kd order, m.first ++ s.getD 0 []⟩
theorem least_ok {B : Nat} {m : M} {s : List Tx} {kd order : List Nat} (O : MOk B m) (S : Sures m.letters m.rooms s) (N : Numd (early s m.rooms) kd order) : MOk (B + B) (leastM m s kd order) where
  l := O.l
  r := N.ok (early_ok O.r S)
  f := O.f.app (S.sg O.r O.r.pos)
  fl := by
    show (m.first ++ s.getD 0 []).length ≤ _
    rw [List.length_append]
    have := O.fl
    have := S.len_le O.r O.r.pos
    omega
theorem least_is {B : Nat} {m : M} {s : List Tx} {kd order : List Nat} (O : MOk B m) (S : Sures m.letters m.rooms s) (Ks : Kinds m.letters (early s m.rooms) kd) (N : Numd (early s m.rooms) kd order) : Least m (leastM m s kd order) := by
  have R2 := early_ok O.r S
  have T := early_tight O.r S
  have p0 : 0 < (early s m.rooms).length := R2.pos
  have rows : ∀ y, Wd m.letters y → (leastM m s kd order).row y = m.row y := fun y w => by
    have h := (N.sim Ks T R2 y 0 p0 N.zero.1 w).1
    rw [N.zero.2] at h
    show (m.first ++ s.getD 0 []) ++ rowF m.letters (made (early s m.rooms) kd order) 0 y = m.first ++ rowF m.letters m.rooms 0 y
    rw [h, List.append_assoc, early_row O.r S y 0 O.r.pos w]
  refine ⟨rfl, rows, fun e0 x w => ?_, ?_⟩
  · have hs := N.sim Ks T R2 x 0 p0 N.zero.1 w
    rw [N.zero.2] at hs
    have hk : (walkF m.letters (early s m.rooms) 0 x).2 < (early s m.rooms).length := R2.walk_lt x 0 p0 w
    have ek := early_walk O.r s x 0 O.r.pos w
    have hk2 : (walkF m.letters m.rooms 0 x).2 < m.rooms.length := O.r.walk_lt x 0 O.r.pos w
    have f0 : m.first = [] ∧ endAt m.rooms 0 = [] := List.append_eq_nil_iff.mp e0
    have s0 : s.getD 0 [] = [] := by
      have h := S.pre 0 O.r.pos
      rw [f0.2] at h
      exact List.prefix_nil.mp h
    have row0 : ∀ y, Wd m.letters y → m.row y = rowF m.letters (early s m.rooms) 0 y := fun y wy => by
      have h := early_row O.r S y 0 O.r.pos wy
      rw [s0] at h
      show m.first ++ rowF m.letters m.rooms 0 y = _
      rw [f0.1, ← h]
      rfl
    obtain ⟨A, rowx⟩ : ∃ A : Tx, ∀ y, Wd m.letters y → m.row (x ++ y) = A ++ rowF m.letters (early s m.rooms) (walkF m.letters m.rooms 0 x).2 y := by
      refine ⟨(walkF m.letters m.rooms 0 x).1 ++ s.getD (walkF m.letters m.rooms 0 x).2 [], fun y wy => ?_⟩
      show m.first ++ rowF m.letters m.rooms 0 (x ++ y) = _
      rw [f0.1, rowF_app, List.append_assoc, early_row O.r S y _ hk2 wy]
      rfl
    have hz : (leastM m s kd order).room x = 0 ↔ kd.getD (walkF m.letters m.rooms 0 x).2 0 = kd.getD 0 0 := by
      show (walkF m.letters (made (early s m.rooms) kd order) 0 x).2 = 0 ↔ _
      rw [hs.2.2, ← ek]
      exact N.zero_iff _ hs.2.1
    have hk3 : (walkF m.letters m.rooms 0 x).2 < (early s m.rooms).length := by rw [early_len]; exact hk2
    rw [hz, Ks.iff _ _ hk3 p0]
    constructor
    · intro q y wy
      have h1 := rowx y wy
      have h2 := rowx [] Wd.nil
      rw [List.append_nil, q [] Wd.nil, ← row0 [] Wd.nil, e0, List.append_nil] at h2
      rw [h1, q y wy, ← row0 y wy, h2]
    · intro q
      have h2 := rowx [] Wd.nil
      rw [List.append_nil] at h2
      have step : ∀ y, Wd m.letters y → rowF m.letters (early s m.rooms) (walkF m.letters m.rooms 0 x).2 y = rowF m.letters (early s m.rooms) (walkF m.letters m.rooms 0 x).2 [] ++ rowF m.letters (early s m.rooms) 0 y := fun y wy => by
        have h3 := q y wy
        rw [rowx y wy, h2, row0 y wy, List.append_assoc] at h3
        exact List.append_cancel_left h3
      have e2 : rowF m.letters (early s m.rooms) (walkF m.letters m.rooms 0 x).2 [] = [] := T _ hk3 _ fun y wy => by
        rw [step y wy]
        exact List.prefix_append _ _
      intro y wy
      rw [step y wy, e2]
      rfl
  · show (made (early s m.rooms) kd order).length ≤ _
    rw [made_len]
    have := N.len
    rw [early_len] at this
    exact this
end K70
namespace K70
/-! ## words by their numbers -/
def num (ls : Tx) (w : Tx) : Nat := w.foldl (fun n c => n * ls.length + ls.idxOf c + 1) 0
theorem num_nil (ls : Tx) : num ls [] = 0 := rfl
theorem num_snoc (ls w : Tx) (c : Nat) : num ls (w ++ [c]) = num ls w * ls.length + ls.idxOf c + 1 := by
  unfold num
  rw [List.foldl_append]
  rfl
theorem num_lt_snoc {ls w : Tx} {c : Nat} (hc : c ∈ ls) : num ls w < num ls (w ++ [c]) := by
  rw [num_snoc]
  have h : 1 ≤ ls.length := by
    have := List.length_pos_of_mem hc
    omega
  have : num ls w * 1 ≤ num ls w * ls.length := Nat.mul_le_mul_left _ h
  omega
theorem num_inj {ls : Tx} : ∀ (w z : Tx), Wd ls w → Wd ls z → num ls w = num ls z → w = z := by
  intro w
  refine rev_ind (P := fun w => ∀ z, Wd ls w → Wd ls z → num ls w = num ls z → w = z) ?_ ?_ w
  · intro z
    refine rev_ind (P := fun z => Wd ls [] → Wd ls z → num ls [] = num ls z → [] = z) (fun _ _ _ => rfl) ?_ z
    intro z c _ _ _ e
    rw [num_snoc, num_nil] at e
    omega
  · intro w c ih z
    refine rev_ind (P := fun z => Wd ls (w ++ [c]) → Wd ls z → num ls (w ++ [c]) = num ls z → w ++ [c] = z) ?_ ?_ z
    · intro _ _ e
      rw [num_snoc, num_nil] at e
      omega
    · intro z d _ hw hz e
      rw [num_snoc, num_snoc] at e
      have hc : c ∈ ls := hw c (by simp)
      have hd : d ∈ ls := hz d (by simp)
      have ic : ls.idxOf c < ls.length := List.idxOf_lt_length_iff.mpr hc
      have id : ls.idxOf d < ls.length := List.idxOf_lt_length_iff.mpr hd
      have e1 : num ls w * ls.length + ls.idxOf c = num ls z * ls.length + ls.idxOf d := by omega
      have m1 : (num ls w * ls.length + ls.idxOf c) % ls.length = ls.idxOf c := by
        rw [Nat.add_comm, Nat.add_mul_mod_self_right]
        exact Nat.mod_eq_of_lt ic
      have m2 : (num ls z * ls.length + ls.idxOf d) % ls.length = ls.idxOf d := by
        rw [Nat.add_comm, Nat.add_mul_mod_self_right]
        exact Nat.mod_eq_of_lt id
      have e2 : ls.idxOf c = ls.idxOf d := by rw [← m1, ← m2, e1]
      have e3 : c = d := idxOf_inj' (l := ls) hc e2
      have e4 : num ls w * ls.length = num ls z * ls.length := by omega
      have e5 : num ls w = num ls z := Nat.eq_of_mul_eq_mul_right (by omega) e4
      rw [e3, ih z hw.left hz.left e5]
theorem rests_cancel (a b x y : Tx) : (rests a b).1 ++ x = (rests a b).2 ++ y ↔ a ++ x = b ++ y := by
  have h1 : lcp a b ++ ((rests a b).1 ++ x) = a ++ x := by rw [← List.append_assoc, rests_1]
  have h2 : lcp a b ++ ((rests a b).2 ++ y) = b ++ y := by rw [← List.append_assoc, rests_2]
  rw [← h1, ← h2]
  exact ⟨fun e => by rw [e], List.append_cancel_left⟩
/-! ## things: two rooms and their rests -/
abbrev Th := Nat × Nat × Tx × Tx
section
variable {ls : Tx} {B : Nat} {rs : List Rm}
def stepT (ls : Tx) (rs : List Rm) (t : Th) (c : Nat) : Th :=
  ((wayAt ls rs t.1 c).2, (wayAt ls rs t.2.1 c).2, rests (t.2.2.1 ++ (wayAt ls rs t.1 c).1) (t.2.2.2 ++ (wayAt ls rs t.2.1 c).1))
def alikeT (rs : List Rm) (t : Th) : Prop := t.2.2.1 ++ endAt rs t.1 = t.2.2.2 ++ endAt rs t.2.1
instance (rs : List Rm) (t : Th) : Decidable (alikeT rs t) := inferInstanceAs (Decidable (_ = _))
def thOf (ls : Tx) (rs : List Rm) (b : Th) (w : Tx) : Th := w.foldl (stepT ls rs) b
theorem thOf_snoc (b : Th) (w : Tx) (c : Nat) : thOf ls rs b (w ++ [c]) = stepT ls rs (thOf ls rs b w) c := by
  unfold thOf
  rw [List.foldl_append]
  rfl
theorem th_sem : ∀ (w : Tx) (b : Th), alikeT rs (thOf ls rs b w) ↔ b.2.2.1 ++ rowF ls rs b.1 w = b.2.2.2 ++ rowF ls rs b.2.1 w
  | [], b => Iff.rfl
  | c :: w, b => by
    show alikeT rs (thOf ls rs (stepT ls rs b c) w) ↔ _
    rw [th_sem w, rowF_cons, rowF_cons, ← List.append_assoc, ← List.append_assoc]
    exact rests_cancel _ _ _ _
/-- a thing as they come -/
structure ThOk (rs : List Rm) (t : Th) : Prop where
  j : t.1 < rs.length
  k : t.2.1 < rs.length
  strip : lcp t.2.2.1 t.2.2.2 = []
theorem ThOk.step (R : ROk ls B rs) {t : Th} (h : ThOk rs t) {c : Nat} (hc : c ∈ ls) : ThOk rs (stepT ls rs t c) :=
  ⟨R.way_lt h.j hc, R.way_lt h.k hc, rests_strip _ _⟩
theorem ThOk.of (R : ROk ls B rs) {b : Th} (h : ThOk rs b) (w : Tx) : Wd ls w → ThOk rs (thOf ls rs b w) := by
  refine rev_ind (P := fun w => Wd ls w → ThOk rs (thOf ls rs b w)) (fun _ => h) (fun w c ih hw => ?_) w
  rw [thOf_snoc]
  exact (ih hw.left).step R (hw c (by simp))
/-- alike at the end: the rests are no longer than an end -/
theorem ThOk.short (R : ROk ls B rs) {t : Th} (h : ThOk rs t) (a : alikeT rs t) : t.2.2.1.length ≤ B ∧ t.2.2.2.length ≤ B := by
  have e1 := (R.room_at h.j).2.1
  have e2 := (R.room_at h.k).2.1
  have hl := congrArg List.length a
  rw [List.length_append, List.length_append] at hl
  rcases strip_eq h.strip a with z | z
  · rw [z] at hl ⊢
    rw [List.length_nil] at hl ⊢
    omega
  · rw [z] at hl ⊢
    rw [List.length_nil] at hl ⊢
    omega
theorem ThOk.same {t u : Th} (h : ThOk rs t) (h' : ThOk rs u) (a : alikeT rs t) (a' : alikeT rs u) (e1 : t.1 = u.1) (e2 : t.2.1 = u.2.1) : t = u := by
  obtain ⟨j, k, m, l⟩ := t
  obtain ⟨j', k', m', l'⟩ := u
  have e1' : j = j' := e1
  have e2' : k = k' := e2
  subst e1' e2'
  have a1 : m ++ endAt rs j = l ++ endAt rs k := a
  have a2 : m' ++ endAt rs j = l' ++ endAt rs k := a'
  have n1 := congrArg List.length a1
  have n2 := congrArg List.length a2
  rw [List.length_append, List.length_append] at n1 n2
  have z1 : m = [] ∨ l = [] := strip_eq h.strip a1
  have z2 : m' = [] ∨ l' = [] := strip_eq h'.strip a2
  have nil_of : ∀ x : Tx, x.length = 0 → x = [] := fun x hx => List.eq_nil_of_length_eq_zero hx
  rcases z1 with z1 | z1 <;> rcases z2 with z2 | z2
  · subst z1 z2
    have : l = l' := List.append_cancel_right (a1.symm.trans a2)
    rw [this]
  · subst z1 z2
    simp only [List.length_nil] at n1 n2
    rw [nil_of l (by omega), nil_of m' (by omega)]
  · subst z1 z2
    simp only [List.length_nil] at n1 n2
    rw [nil_of m (by omega), nil_of l' (by omega)]
  · subst z1 z2
    have : m = m' := List.append_cancel_right (a1.trans a2.symm)
    rw [this]
/-! ## the search -/
structure BInv (ls : Tx) (rs : List Rm) (C : Nat) (b : Th) (ord : List (Th × Tx)) (at_ : Nat) : Prop where
  head : ord[0]? = some (b, [])
  nd : (ord.map (·.1)).Nodup
  wd : ∀ (p : Th × Tx), p ∈ ord → Wd ls p.2 ∧ thOf ls rs b p.2 = p.1
  inc : ord.Pairwise (fun (p q : Th × Tx) => num ls p.2 < num ls q.2)
  al : ∀ (i : Nat) (p : Th × Tx), i < at_ → ord[i]? = some p → alikeT rs p.1
  cl : ∀ (i : Nat) (p : Th × Tx), i < at_ → ord[i]? = some p → ∀ c ∈ ls, ∃ q ∈ ord, q.1 = stepT ls rs p.1 c ∧ num ls q.2 ≤ num ls (p.2 ++ [c])
  le : at_ ≤ ord.length
  wl : ∀ (i : Nat) (p : Th × Tx), ord[i]? = some p → p.2.length ≤ i
  sz : ∀ (p : Th × Tx), p ∈ ord → p.1.2.2.1.length ≤ C ∧ p.1.2.2.2.length ≤ C
  ln : ord.length ≤ 1 + at_ * ls.length
  bd : ∀ (q : Th × Tx), ord[at_]? = some q → ∀ (p : Th × Tx), p ∈ ord → num ls p.2 ≤ num ls q.2 * ls.length
theorem BInv.start {C : Nat} {b : Th} (h1 : b.2.2.1.length ≤ C) (h2 : b.2.2.2.length ≤ C) : BInv ls rs C b [(b, [])] 0 where
  head := rfl
  nd := by simp
  wd := fun p h => by
    rw [List.mem_singleton.mp h]
    exact ⟨Wd.nil, rfl⟩
  inc := List.pairwise_singleton _ _
  al := fun i p h => absurd h (Nat.not_lt_zero _)
  cl := fun i p h => absurd h (Nat.not_lt_zero _)
  le := Nat.zero_le _
  wl := fun i p h => by
    cases i with
    | zero => cases h; exact Nat.le_refl _
    | succ i => simp at h
  sz := fun p h => by
    rw [List.mem_singleton.mp h]
    exact ⟨h1, h2⟩
  ln := by simp
  bd := fun q hq p h => by
    rw [List.mem_singleton.mp h]
    exact Nat.zero_le _
/-- within a turn: i letters of the thing at at_ are done -/
structure BMid (ls : Tx) (rs : List Rm) (C : Nat) (b : Th) (ord : List (Th × Tx)) (at_ : Nat) (p : Th × Tx) (i : Nat) : Prop where
  head : ord[0]? = some (b, [])
  nd : (ord.map (·.1)).Nodup
  wd : ∀ (p : Th × Tx), p ∈ ord → Wd ls p.2 ∧ thOf ls rs b p.2 = p.1
  inc : ord.Pairwise (fun (p q : Th × Tx) => num ls p.2 < num ls q.2)
  al : ∀ (i : Nat) (p : Th × Tx), i < at_ + 1 → ord[i]? = some p → alikeT rs p.1
  cl : ∀ (i : Nat) (p : Th × Tx), i < at_ → ord[i]? = some p → ∀ c ∈ ls, ∃ q ∈ ord, q.1 = stepT ls rs p.1 c ∧ num ls q.2 ≤ num ls (p.2 ++ [c])
  wl : ∀ (i : Nat) (p : Th × Tx), ord[i]? = some p → p.2.length ≤ i
  sz : ∀ (p : Th × Tx), p ∈ ord → p.1.2.2.1.length ≤ C ∧ p.1.2.2.2.length ≤ C
  here : ord[at_]? = some p
  some_ : ∀ c ∈ ls.take i, ∃ q ∈ ord, q.1 = stepT ls rs p.1 c ∧ num ls q.2 ≤ num ls (p.2 ++ [c])
  top : ∀ (q : Th × Tx), q ∈ ord → num ls q.2 ≤ num ls p.2 * ls.length + i
  ln : ord.length ≤ 1 + at_ * ls.length + i
theorem BInv.open_ {C : Nat} {b : Th} {ord : List (Th × Tx)} {at_ : Nat} {p : Th × Tx} (I : BInv ls rs C b ord at_) (h : ord[at_]? = some p) (a : alikeT rs p.1) : BMid ls rs C b ord at_ p 0 where
  head := I.head
  nd := I.nd
  wd := I.wd
  inc := I.inc
  al := fun i q hi e => by
    by_cases z : i = at_
    · subst z
      rw [h] at e
      cases e
      exact a
    · exact I.al i q (by omega) e
  cl := I.cl
  wl := I.wl
  sz := I.sz
  here := h
  some_ := fun c hc => by simp at hc
  top := fun q hq => I.bd p h q hq
  ln := I.ln
def addT (ls : Tx) (rs : List Rm) (ord : List (Th × Tx)) (p : Th × Tx) (c : Nat) : List (Th × Tx) :=
  if stepT ls rs p.1 c ∈ ord.map (·.1) then ord else ord ++ [(stepT ls rs p.1 c, p.2 ++ [c])]
theorem BMid.turn {C : Nat} {b : Th} {ord : List (Th × Tx)} {at_ : Nat} {p : Th × Tx} {i : Nat} (R : ROk ls B rs) (L : LOk ls) (hb : ThOk rs b) (hC : B + B ≤ C) (I : BMid ls rs C b ord at_ p i) (hi : i < ls.length) : BMid ls rs C b (addT ls rs ord p ls[i]) at_ p (i + 1) := by
  have hc : ls[i] ∈ ls := List.getElem_mem hi
  have hn : num ls (p.2 ++ [ls[i]]) = num ls p.2 * ls.length + i + 1 := by rw [num_snoc, List.Nodup.idxOf_getElem L.nd i hi]
  have hp := I.wd p (List.mem_of_getElem? I.here)
  have tk : ∀ c ∈ ls.take (i + 1), c ∈ ls.take i ∨ c = ls[i] := fun c h => by
    rw [List.take_add_one, List.getElem?_eq_getElem hi] at h
    rcases List.mem_append.mp h with q | q
    · exact .inl q
    · exact .inr (by simpa using q)
  have lt : at_ < ord.length := (List.getElem?_eq_some_iff.mp I.here).1
  unfold addT
  by_cases h : stepT ls rs p.1 ls[i] ∈ ord.map (·.1)
  · rw [if_pos h]
    refine ⟨I.head, I.nd, I.wd, I.inc, I.al, I.cl, I.wl, I.sz, I.here, fun c hcm => ?_, fun q hq => ?_, ?_⟩
    · rcases tk c hcm with q | q
      · exact I.some_ c q
      · subst q
        obtain ⟨q, hq, e⟩ := List.mem_map.mp h
        refine ⟨q, hq, e, ?_⟩
        have := I.top q hq
        omega
    · have := I.top q hq
      omega
    · have := I.ln
      omega
  · rw [if_neg h]
    have up : ∀ {q : Th × Tx} {P : Prop}, q ∈ ord → q ∈ ord ++ [(stepT ls rs p.1 ls[i], p.2 ++ [ls[i]])] := fun h => List.mem_append_left _ h
    have get : ∀ j q, (ord ++ [(stepT ls rs p.1 ls[i], p.2 ++ [ls[i]])])[j]? = some q → ord[j]? = some q ∨ (j = ord.length ∧ q = (stepT ls rs p.1 ls[i], p.2 ++ [ls[i]])) := fun j q e => by
      by_cases hj : j < ord.length
      · rw [List.getElem?_append_left hj] at e
        exact .inl e
      · rw [List.getElem?_append_right (by omega)] at e
        have : j - ord.length = 0 := by
          by_cases z : j - ord.length = 0
          · exact z
          · rw [List.getElem?_eq_none (by simp; omega)] at e
            cases e
        rw [this] at e
        cases e
        exact .inr ⟨by omega, rfl⟩
    refine ⟨?_, ?_, fun q hq => ?_, ?_, fun j q hj e => ?_, fun j q hj e c hcm => ?_, fun j q e => ?_, fun q hq => ?_, ?_, fun c hcm => ?_, fun q hq => ?_, ?_⟩
    · rw [List.getElem?_append_left (by omega)]
      exact I.head
    · rw [List.map_append, List.nodup_append]
      refine ⟨I.nd, by simp, fun a ha c hc' e => ?_⟩
      have : c = stepT ls rs p.1 ls[i] := by simpa using hc'
      rw [this] at e
      exact h (e ▸ ha)
    · rcases List.mem_append.mp hq with q' | q'
      · exact I.wd q q'
      · rw [List.mem_singleton.mp q']
        refine ⟨hp.1.app (Wd.cons hc Wd.nil), ?_⟩
        show thOf ls rs b (p.2 ++ [ls[i]]) = _
        rw [thOf_snoc, hp.2]
    · rw [List.pairwise_append]
      refine ⟨I.inc, List.pairwise_singleton _ _, fun a ha q hq => ?_⟩
      rw [List.mem_singleton.mp hq]
      show num ls a.2 < num ls (p.2 ++ [ls[i]])
      have := I.top a ha
      omega
    · rcases get j q e with e' | ⟨e', _⟩
      · exact I.al j q hj e'
      · omega
    · rcases get j q e with e' | ⟨e', _⟩
      · obtain ⟨r, hr, h1, h2⟩ := I.cl j q hj e' c hcm
        exact ⟨r, List.mem_append_left _ hr, h1, h2⟩
      · omega
    · rcases get j q e with e' | ⟨e', e2⟩
      · exact I.wl j q e'
      · rw [e2]
        show (p.2 ++ [ls[i]]).length ≤ j
        have := I.wl at_ p I.here
        simp
        omega
    · rcases List.mem_append.mp hq with q' | q'
      · exact I.sz q q'
      · rw [List.mem_singleton.mp q']
        have ok : ThOk rs p.1 := by rw [← hp.2]; exact hb.of R p.2 hp.1
        have sh := ok.short R (I.al at_ p (Nat.lt_succ_self _) I.here)
        have w1 := R.way_len ok.j hc
        have w2 := R.way_len ok.k hc
        constructor
        · refine Nat.le_trans (rests_len1 _ _) ?_
          rw [List.length_append]
          omega
        · refine Nat.le_trans (rests_len2 _ _) ?_
          rw [List.length_append]
          omega
    · rw [List.getElem?_append_left lt]
      exact I.here
    · rcases tk c hcm with q | q
      · obtain ⟨r, hr, h1, h2⟩ := I.some_ c q
        exact ⟨r, List.mem_append_left _ hr, h1, h2⟩
      · subst q
        exact ⟨_, List.mem_append_right _ (List.mem_singleton.mpr rfl), rfl, Nat.le_refl _⟩
    · rcases List.mem_append.mp hq with q' | q'
      · have := I.top q q'
        omega
      · rw [List.mem_singleton.mp q']
        show num ls (p.2 ++ [ls[i]]) ≤ _
        omega
    · rw [List.length_append]
      have := I.ln
      simp
      omega
theorem BMid.close {C : Nat} {b : Th} {ord : List (Th × Tx)} {at_ : Nat} {p : Th × Tx} (I : BMid ls rs C b ord at_ p ls.length) : BInv ls rs C b ord (at_ + 1) where
  head := I.head
  nd := I.nd
  wd := I.wd
  inc := I.inc
  al := I.al
  cl := fun i q hi e => by
    by_cases z : i = at_
    · subst z
      rw [I.here] at e
      cases e
      have h := I.some_
      rw [List.take_length] at h
      exact h
    · exact I.cl i q (by omega) e
  le := (List.getElem?_eq_some_iff.mp I.here).1
  wl := I.wl
  sz := I.sz
  ln := by
    have := I.ln
    rw [Nat.add_mul, Nat.one_mul]
    omega
  bd := fun q hq r hr => by
    have h1 := I.top r hr
    obtain ⟨hlt, e⟩ := List.getElem?_eq_some_iff.mp hq
    obtain ⟨hlt2, e2⟩ := List.getElem?_eq_some_iff.mp I.here
    have h2 := List.pairwise_iff_getElem.mp I.inc at_ (at_ + 1) hlt2 hlt (Nat.lt_succ_self _)
    rw [e, e2] at h2
    have h3 : (num ls p.2 + 1) * ls.length ≤ num ls q.2 * ls.length := Nat.mul_le_mul_right _ h2
    rw [Nat.add_mul, Nat.one_mul] at h3
    omega
theorem BInv.ok {C : Nat} {b : Th} {ord : List (Th × Tx)} {at_ : Nat} (R : ROk ls B rs) (hb : ThOk rs b) (I : BInv ls rs C b ord at_) {p : Th × Tx} (h : p ∈ ord) : ThOk rs p.1 := by
  have := I.wd p h
  rw [← this.2]
  exact hb.of R p.2 this.1
theorem BInv.few {C : Nat} {b : Th} {ord : List (Th × Tx)} {at_ : Nat} (R : ROk ls B rs) (hb : ThOk rs b) (I : BInv ls rs C b ord at_) : at_ ≤ rs.length * rs.length := by
  have hlen : ((ord.take at_).map fun p => p.1.1 * rs.length + p.1.2.1).length = at_ := by
    rw [List.length_map, List.length_take]
    have := I.le
    omega
  rw [← hlen]
  refine nodup_le _ _ ?_ fun x hx => ?_
  · unfold List.Nodup
    rw [List.pairwise_map, List.pairwise_iff_getElem]
    intro i j hi hj hij e
    have hi' : i < at_ ∧ i < ord.length := by rw [List.length_take] at hi; omega
    have hj' : j < at_ ∧ j < ord.length := by rw [List.length_take] at hj; omega
    rw [List.getElem_take, List.getElem_take] at e
    have oi := I.ok R hb (List.getElem_mem hi'.2)
    have oj := I.ok R hb (List.getElem_mem hj'.2)
    have ai := I.al i _ hi'.1 (List.getElem?_eq_getElem hi'.2)
    have aj := I.al j _ hj'.1 (List.getElem?_eq_getElem hj'.2)
    have m1 : (ord[i].1.1 * rs.length + ord[i].1.2.1) % rs.length = ord[i].1.2.1 := by
      rw [Nat.add_comm, Nat.add_mul_mod_self_right]
      exact Nat.mod_eq_of_lt oi.k
    have m2 : (ord[j].1.1 * rs.length + ord[j].1.2.1) % rs.length = ord[j].1.2.1 := by
      rw [Nat.add_comm, Nat.add_mul_mod_self_right]
      exact Nat.mod_eq_of_lt oj.k
    have ek : ord[i].1.2.1 = ord[j].1.2.1 := by rw [← m1, ← m2, e]
    have ej : ord[i].1.1 = ord[j].1.1 := by
      have h1 : ord[i].1.1 * rs.length = ord[j].1.1 * rs.length := by omega
      exact Nat.eq_of_mul_eq_mul_right (by have := oi.k; omega) h1
    have et := oi.same oj ai aj ej ek
    have nd := I.nd
    unfold List.Nodup at nd
    rw [List.pairwise_map] at nd
    exact List.pairwise_iff_getElem.mp nd i j hi'.2 hj'.2 hij et
  · obtain ⟨p, hp, rfl⟩ := List.mem_map.mp hx
    have o := I.ok R hb (List.mem_of_mem_take hp)
    have h1 : (p.1.1 + 1) * rs.length ≤ rs.length * rs.length := Nat.mul_le_mul_right _ o.j
    rw [Nat.add_mul, Nat.one_mul] at h1
    have := o.k
    omega
theorem BInv.reach {C : Nat} {b : Th} {ord : List (Th × Tx)} {at_ : Nat} (I : BInv ls rs C b ord at_) (z : Tx) : Wd ls z → (∀ q, ord[at_]? = some q → num ls z < num ls q.2) → ∃ i r, i < at_ ∧ ord[i]? = some r ∧ r.1 = thOf ls rs b z ∧ num ls r.2 ≤ num ls z := by
  refine rev_ind (P := fun z => Wd ls z → (∀ q, ord[at_]? = some q → num ls z < num ls q.2) → ∃ i r, i < at_ ∧ ord[i]? = some r ∧ r.1 = thOf ls rs b z ∧ num ls r.2 ≤ num ls z) ?_ ?_ z
  · intro _ h
    refine ⟨0, _, ?_, I.head, rfl, Nat.le_refl _⟩
    cases at_ with
    | zero => exact absurd (h _ I.head) (Nat.lt_irrefl _)
    | succ n => exact Nat.succ_pos _
  · intro z c ih w h
    have hc : c ∈ ls := w c (by simp)
    have hz := num_lt_snoc (w := z) hc
    obtain ⟨i, r, hi, er, et, en⟩ := ih w.left fun q hq => Nat.lt_trans hz (h q hq)
    obtain ⟨q, hq, eq, nq⟩ := I.cl i r hi er c hc
    have nle : num ls q.2 ≤ num ls (z ++ [c]) := by
      refine Nat.le_trans nq ?_
      rw [num_snoc, num_snoc]
      have : num ls r.2 * ls.length ≤ num ls z * ls.length := Nat.mul_le_mul_right _ en
      omega
    obtain ⟨k, hk, ek⟩ := List.mem_iff_getElem.mp hq
    refine ⟨k, q, ?_, by rw [List.getElem?_eq_getElem hk, ek], ?_, nle⟩
    · by_cases hka : k < at_
      · exact hka
      · exfalso
        have hat : at_ < ord.length := by omega
        have h1 := h _ (List.getElem?_eq_getElem hat)
        have h2 : num ls ord[at_].2 ≤ num ls q.2 := by
          by_cases e : k = at_
          · subst e
            rw [ek]
            exact Nat.le_refl _
          · have := List.pairwise_iff_getElem.mp I.inc at_ k hat hk (by omega)
            rw [ek] at this
            exact Nat.le_of_lt this
        omega
    · rw [thOf_snoc, eq, et]
/-- none: never parted; a word: the first at which they part -/
def FirstOf (ls : Tx) (Bad : Tx → Prop) (r : Option Tx) : Prop :=
  match r with
  | none => ∀ y, Wd ls y → ¬ Bad y
  | some w => Wd ls w ∧ Bad w ∧ ∀ z, Wd ls z → num ls z < num ls w → ¬ Bad z
theorem FirstOf.uniq {Bad Bad' : Tx → Prop} {r r' : Option Tx} (h : FirstOf ls Bad r) (h' : FirstOf ls Bad' r') (e : ∀ y, Wd ls y → (Bad y ↔ Bad' y)) : r = r' := by
  cases r with
  | none =>
    cases r' with
    | none => rfl
    | some w => exact absurd ((e w h'.1).mpr h'.2.1) (h w h'.1)
  | some v =>
    cases r' with
    | none => exact absurd ((e v h.1).mp h.2.1) (h' v h.1)
    | some w =>
      have h1 : ¬ num ls v < num ls w := fun q => h'.2.2 v h.1 q ((e v h.1).mp h.2.1)
      have h2 : ¬ num ls w < num ls v := fun q => h.2.2 w h'.1 q ((e w h'.1).mpr h'.2.1)
      rw [num_inj v w h.1 h'.1 (by omega)]
def BadT (ls : Tx) (rs : List Rm) (b : Th) (y : Tx) : Prop := ¬ alikeT rs (thOf ls rs b y)
theorem BInv.parts {C : Nat} {b : Th} {ord : List (Th × Tx)} {at_ : Nat} {p : Th × Tx} (I : BInv ls rs C b ord at_) (h : ord[at_]? = some p) (a : ¬ alikeT rs p.1) : FirstOf ls (BadT ls rs b) (some p.2) := by
  have hp := I.wd p (List.mem_of_getElem? h)
  refine ⟨hp.1, by unfold BadT; rw [hp.2]; exact a, fun z hz hn hb => ?_⟩
  obtain ⟨i, r, hi, er, et, _⟩ := I.reach z hz fun q hq => by
    rw [h] at hq
    cases hq
    exact hn
  refine hb ?_
  rw [← et]
  exact I.al i r hi er
theorem BInv.never {C : Nat} {b : Th} {ord : List (Th × Tx)} {at_ : Nat} (I : BInv ls rs C b ord at_) (h : ord.length ≤ at_) : FirstOf ls (BadT ls rs b) none := fun z hz hb => by
  obtain ⟨i, r, hi, er, et, _⟩ := I.reach z hz fun q hq => by
    rw [List.getElem?_eq_none h] at hq
    cases hq
  refine hb ?_
  rw [← et]
  exact I.al i r hi er
end
/-! ## no seam -/
def Bad (m : M) (x y : Tx) : Prop := m.row (x ++ y) ≠ m.row x ++ m.row y
/-- where the search for a place behind x begins -/
def beginOf (m : M) (x : Tx) : Th := ((walkF m.letters m.rooms 0 x).2, 0, rests (m.first ++ (walkF m.letters m.rooms 0 x).1) (m.row x ++ m.first))
theorem begin_ok {B : Nat} {m : M} (O : MOk B m) {x : Tx} (w : Wd m.letters x) : ThOk m.rooms (beginOf m x) := ⟨O.r.walk_lt x 0 O.r.pos w, O.r.pos, rests_strip _ _⟩
theorem begin_bad (m : M) (x y : Tx) : BadT m.letters m.rooms (beginOf m x) y ↔ Bad m x y := by
  unfold BadT Bad
  rw [th_sem]
  have e1 : m.row (x ++ y) = (m.first ++ (walkF m.letters m.rooms 0 x).1) ++ rowF m.letters m.rooms (walkF m.letters m.rooms 0 x).2 y := by
    rw [List.append_assoc, ← rowF_app]
    rfl
  have e2 : m.row x ++ m.row y = (m.row x ++ m.first) ++ rowF m.letters m.rooms 0 y := by
    rw [List.append_assoc]
    rfl
  rw [e1, e2]
  exact not_congr (rests_cancel _ _ _ _)
/-- what no_seam tells of the place behind x -/
def NoSeam (m : M) (x : Tx) (r : Option Tx) : Prop := FirstOf m.letters (Bad m x) r
theorem NoSeam.of {m : M} {x : Tx} {r : Option Tx} (h : FirstOf m.letters (BadT m.letters m.rooms (beginOf m x)) r) : NoSeam m x r := by
  cases r with
  | none => exact fun y w q => h y w ((begin_bad m x y).mpr q)
  | some v => exact ⟨h.1, (begin_bad m x v).mp h.2.1, fun z w l q => h.2.2 z w l ((begin_bad m x z).mpr q)⟩
theorem NoSeam.none_iff {m : M} {x : Tx} {r : Option Tx} (h : NoSeam m x r) : r = none ↔ IsSeam m x := by
  cases r with
  | none => exact ⟨fun _ y w => Classical.not_not.mp (h y w), fun _ => rfl⟩
  | some v => exact ⟨fun e => (nomatch e), fun e => absurd (e v h.1) h.2.1⟩
end K70
namespace K70
/-! ## how far one can go without a bar -/
section
variable {ls : Tx} {B : Nat} {rs : List Rm} {bars : List Nat}
def ledOf (rs : List Rm) (bars : List Nat) (k : Nat) : List Nat := ((waysAt rs k).map (·.2)).filter (fun t => decide (t ∉ bars))
theorem mem_led {k t : Nat} : t ∈ ledOf rs bars k ↔ (∃ w ∈ waysAt rs k, w.2 = t) ∧ t ∉ bars := by
  unfold ledOf
  rw [List.mem_filter, List.mem_map]
  simp
structure FInv (rs : List Rm) (bars : List Nat) (far : List (Nat × Nat)) : Prop where
  nd : (far.map (·.1)).Nodup
  lt : ∀ (p : Nat × Nat), p ∈ far → p.1 < rs.length
  ix : ∀ (i : Nat) (p : Nat × Nat), far[i]? = some p → p.2 ≤ i
  up : ∀ (p : Nat × Nat), p ∈ far → ∀ t ∈ ledOf rs bars p.1, ∃ q ∈ far, q.1 = t ∧ q.2 + 1 ≤ p.2
  on : ∀ (p : Nat × Nat), p ∈ far → p.2 = 0 ∨ ∃ t ∈ ledOf rs bars p.1, ∃ q ∈ far, q.1 = t ∧ q.2 + 1 = p.2
theorem FInv.start : FInv rs bars [] := ⟨List.nodup_nil, fun p h => (nomatch h), fun i p h => by simp at h, fun p h => (nomatch h), fun p h => (nomatch h)⟩
theorem FInv.uniq {far : List (Nat × Nat)} (I : FInv rs bars far) {p q : Nat × Nat} (hp : p ∈ far) (hq : q ∈ far) (e : p.1 = q.1) : p = q := by
  obtain ⟨i, hi, rfl⟩ := List.mem_iff_getElem.mp hp
  obtain ⟨j, hj, rfl⟩ := List.mem_iff_getElem.mp hq
  have nd := I.nd
  unfold List.Nodup at nd
  rw [List.pairwise_map, List.pairwise_iff_getElem] at nd
  by_cases h1 : i < j
  · exact absurd e (nd i j hi hj h1)
  · by_cases h2 : j < i
    · exact absurd e.symm (nd j i hj hi h2)
    · have : i = j := by omega
      subst this
      rfl
theorem FInv.len_le {far : List (Nat × Nat)} (I : FInv rs bars far) : far.length ≤ rs.length := by
  have h := nodup_le rs.length _ I.nd (by
    intro x hx
    obtain ⟨p, hp, rfl⟩ := List.mem_map.mp hx
    exact I.lt p hp)
  simpa using h
theorem FInv.add {far : List (Nat × Nat)} (I : FInv rs bars far) {k v : Nat} (hk : k < rs.length) (hn : k ∉ far.map (·.1)) (h1 : ∀ t ∈ ledOf rs bars k, ∃ q ∈ far, q.1 = t ∧ q.2 + 1 ≤ v) (h2 : v = 0 ∨ ∃ t ∈ ledOf rs bars k, ∃ q ∈ far, q.1 = t ∧ q.2 + 1 = v) : FInv rs bars (far ++ [(k, v)]) where
  nd := by
    rw [List.map_append, List.nodup_append]
    refine ⟨I.nd, by simp, fun a ha b hb e => ?_⟩
    have : b = k := by simpa using hb
    rw [this] at e
    exact hn (e ▸ ha)
  lt := fun p h => by
    rcases List.mem_append.mp h with q | q
    · exact I.lt p q
    · rw [List.mem_singleton.mp q]; exact hk
  ix := fun i p h => by
    by_cases hi : i < far.length
    · rw [List.getElem?_append_left hi] at h
      exact I.ix i p h
    · rw [List.getElem?_append_right (by omega)] at h
      have hv : v ≤ far.length := by
        rcases h2 with e | ⟨t, _, q, hq, _, e⟩
        · omega
        · obtain ⟨j, hj, ej⟩ := List.mem_iff_getElem.mp hq
          have := I.ix j q (by rw [List.getElem?_eq_getElem hj, ej])
          omega
      cases z : i - far.length with
      | zero =>
        rw [z] at h
        cases h
        show v ≤ i
        omega
      | succ n => rw [z] at h; simp at h
  up := fun p h t ht => by
    rcases List.mem_append.mp h with q | q
    · obtain ⟨r, hr, e⟩ := I.up p q t ht
      exact ⟨r, List.mem_append_left _ hr, e⟩
    · rw [List.mem_singleton.mp q] at ht ⊢
      obtain ⟨r, hr, e⟩ := h1 t ht
      exact ⟨r, List.mem_append_left _ hr, e⟩
  on := fun p h => by
    rcases List.mem_append.mp h with q | q
    · rcases I.on p q with e | ⟨t, ht, r, hr, e⟩
      · exact .inl e
      · exact .inr ⟨t, ht, r, List.mem_append_left _ hr, e⟩
    · rw [List.mem_singleton.mp q]
      rcases h2 with e | ⟨t, ht, r, hr, e⟩
      · exact .inl e
      · exact .inr ⟨t, ht, r, List.mem_append_left _ hr, e⟩
/-- nothing more can be told -/
structure Far (rs : List Rm) (bars : List Nat) (far : List (Nat × Nat)) : Prop where
  inv : FInv rs bars far
  shut : ∀ k, k < rs.length → k ∉ far.map (·.1) → ∃ t ∈ ledOf rs bars k, t ∉ far.map (·.1)
theorem FInv.ends (R : ROk ls B rs) {far : List (Nat × Nat)} (I : FInv rs bars far) : ∀ (w : Tx) (p : Nat × Nat), p ∈ far → Wd ls w → p.2 < w.length → ∃ i, 1 ≤ i ∧ i ≤ w.length ∧ (walkF ls rs p.1 (w.take i)).2 ∈ bars
  | [], p, _, _, h => absurd h (Nat.not_lt_zero _)
  | c :: w, p, hp, hw, h => by
    have hk := I.lt p hp
    by_cases hb : (wayAt ls rs p.1 c).2 ∈ bars
    · exact ⟨1, Nat.le_refl _, by simp, hb⟩
    · obtain ⟨q, hq, e1, e2⟩ := I.up p hp (wayAt ls rs p.1 c).2 (mem_led.mpr ⟨⟨_, R.way_mem hk hw.head, rfl⟩, hb⟩)
      obtain ⟨i, h1, h2, h3⟩ := I.ends R w q hq hw.tail (by rw [List.length_cons] at h; omega)
      refine ⟨i + 1, by omega, by rw [List.length_cons]; omega, ?_⟩
      show (walkF ls rs (wayAt ls rs p.1 c).2 (w.take i)).2 ∈ bars
      rw [← e1]
      exact h3
theorem Far.goes (L : LOk ls) (R : ROk ls B rs) {far : List (Nat × Nat)} (F : Far rs bars far) : ∀ (N k : Nat), k < rs.length → k ∉ far.map (·.1) → ∃ w, Wd ls w ∧ w.length = N ∧ ∀ i, 1 ≤ i → i ≤ N → (walkF ls rs k (w.take i)).2 ∉ bars
  | 0, k, _, _ => ⟨[], Wd.nil, rfl, fun i h1 h2 => absurd h1 (by omega)⟩
  | N + 1, k, hk, hn => by
    obtain ⟨t, ht, htn⟩ := F.shut k hk hn
    obtain ⟨⟨w, hw, e⟩, hb⟩ := mem_led.mp ht
    obtain ⟨c, hc, ec⟩ := way_of_mem L (R.room_at hk).2.2.1 hw
    have ht2 : t < rs.length := by rw [← e, ← ec]; exact R.way_lt hk hc
    have e2 : (wayAt ls rs k c).2 = t := by rw [ec, e]
    obtain ⟨v, v1, v2, v3⟩ := F.goes L R N t ht2 htn
    refine ⟨c :: v, Wd.cons hc v1, by rw [List.length_cons, v2], fun i h1 h2 => ?_⟩
    cases i with
    | zero => omega
    | succ i =>
      show (walkF ls rs (wayAt ls rs k c).2 (v.take i)).2 ∉ bars
      rw [e2]
      cases i with
      | zero => exact hb
      | succ i => exact v3 (i + 1) (by omega) (by omega)
end
/-! ## seams come -/
def Comes (m : M) : Prop := ∃ N, ∀ w, Wd m.letters w → N < w.length → ∃ i, 1 ≤ i ∧ i ≤ w.length ∧ IsSeam m (w.take i)
theorem seam_nil {m : M} {x : Tx} (h : IsSeam m x) : m.row [] = [] := by
  have h1 := h [] Wd.nil
  rw [List.append_nil] at h1
  have h2 := congrArg List.length h1
  rw [List.length_append] at h2
  exact List.eq_nil_of_length_eq_zero (by omega)
theorem comes_iff {B : Nat} {m L : M} {far : List (Nat × Nat)} {bars : List Nat} (Ls : Least m L) (O : MOk B L) (hb : bars = if L.row [] = [] then [0] else []) (F : Far L.rooms bars far) : 0 ∈ far.map (·.1) ↔ Comes m := by
  have rw0 : L.row [] = m.row [] := Ls.row [] Wd.nil
  have ll := Ls.letters
  have key : ∀ x, Wd m.letters x → (L.room x ∈ bars ↔ IsSeam m x) := fun x w => by
    by_cases e : L.row [] = []
    · rw [if_pos e] at hb
      subst hb
      rw [List.mem_singleton]
      exact Ls.zero (by rw [← rw0]; exact e) x w
    · rw [if_neg e] at hb
      subst hb
      exact ⟨fun q => (nomatch q), fun q => absurd (seam_nil q) (by rw [← rw0]; exact e)⟩
  constructor
  · intro h
    obtain ⟨p, hp, e⟩ := List.mem_map.mp h
    refine ⟨p.2, fun w hw hl => ?_⟩
    obtain ⟨i, h1, h2, h3⟩ := F.inv.ends O.r w p hp (by rw [ll]; exact hw) hl
    refine ⟨i, h1, h2, (key _ (hw.take i)).mp ?_⟩
    have e' : p.1 = 0 := e
    rw [e'] at h3
    exact h3
  · rintro ⟨N, h⟩
    by_cases h0 : 0 ∈ far.map (·.1)
    · exact h0
    · exfalso
      obtain ⟨w, w1, w2, w3⟩ := F.goes O.l O.r (N + 1) 0 O.r.pos h0
      rw [ll] at w1
      obtain ⟨i, h1, h2, h3⟩ := h w w1 (by omega)
      exact w3 i h1 (by omega) ((key _ (w1.take i)).mpr h3)
/-! ## the lists of seams -/
noncomputable def seamB (m : M) (x : Tx) : Bool := @decide (IsSeam m x) (Classical.propDecidable _)
theorem seamB_iff {m : M} {x : Tx} : seamB m x = true ↔ IsSeam m x := by
  exact @decide_eq_true_iff (IsSeam m x) (Classical.propDecidable _)
theorem seamB_eq {m m' : M} {x x' : Tx} (h : IsSeam m x ↔ IsSeam m' x') : seamB m x = seamB m' x' := by
  rw [Bool.eq_iff_iff, seamB_iff, seamB_iff]
  exact h
noncomputable def seamsL (m : M) (x : Tx) : List Nat := (List.range (x.length + 1)).filter fun i => seamB m (x.take i)
theorem mem_seams {m : M} {x : Tx} {i : Nat} : i ∈ seamsL m x ↔ i ≤ x.length ∧ IsSeam m (x.take i) := by
  unfold seamsL
  rw [List.mem_filter, List.mem_range, seamB_iff]
  exact and_congr_left fun _ => Nat.lt_succ_iff
theorem seams_congr {m m' : M} {x : Tx} (h : ∀ i, i ≤ x.length → (IsSeam m (x.take i) ↔ IsSeam m' (x.take i))) : seamsL m x = seamsL m' x := by
  unfold seamsL
  refine List.filter_congr fun i hi => ?_
  rw [List.mem_range] at hi
  exact seamB_eq (h i (by omega))
/-- the same rows -/
structure SameRows (m m' : M) : Prop where
  letters : m'.letters = m.letters
  row : ∀ y, Wd m.letters y → m'.row y = m.row y
theorem Least.same {m L : M} (h : Least m L) : SameRows m L := ⟨h.letters, h.row⟩
theorem SameRows.seam {m m' : M} (h : SameRows m m') {x : Tx} (w : Wd m.letters x) : IsSeam m' x ↔ IsSeam m x := by
  unfold IsSeam
  rw [h.letters]
  refine forall_congr' fun y => forall_congr' fun wy => ?_
  rw [h.row _ (w.app wy), h.row _ w, h.row _ wy]
theorem SameRows.seams {m m' : M} (h : SameRows m m') {x : Tx} (w : Wd m.letters x) : seamsL m' x = seamsL m x := seams_congr fun i _ => h.seam (w.take i)
theorem SameRows.noseam {m m' : M} (h : SameRows m m') {x : Tx} {r r' : Option Tx} (w : Wd m.letters x) (n : NoSeam m x r) (n' : NoSeam m' x r') : r' = r := by
  have n2 : FirstOf m.letters (Bad m' x) r' := by
    have := n'
    unfold NoSeam at this
    rw [h.letters] at this
    exact this
  refine n2.uniq n fun y wy => ?_
  unfold Bad
  rw [h.row _ (w.app wy), h.row _ w, h.row _ wy]
theorem SameRows.comes {m m' : M} (h : SameRows m m') : Comes m' ↔ Comes m := by
  unfold Comes
  rw [h.letters]
  refine exists_congr fun N => forall_congr' fun w => forall_congr' fun hw => forall_congr' fun hl => exists_congr fun i => ?_
  rw [h.seam (hw.take i)]
/-! ### two words, one behind the other -/
theorem take_left {x y : Tx} {i : Nat} (h : i ≤ x.length) : (x ++ y).take i = x.take i := List.take_append_of_le_length h
theorem take_over {x y : Tx} (i : Nat) : (x ++ y).take (x.length + i) = x ++ y.take i := by
  rw [List.take_append, List.take_of_length_le (by omega)]
  congr 2
  omega
theorem range_split (a b : Nat) : List.range (a + b) = List.range a ++ (List.range b).map (a + ·) := List.range_add
theorem seams_split (m : M) (x y : Tx) : seamsL m (x ++ y) = (seamsL m (x ++ y)).filter (fun i => decide (i < x.length)) ++ (seamsL m (x ++ y)).filter (fun i => decide (x.length ≤ i)) := by
  have hr : List.range ((x ++ y).length + 1) = List.range x.length ++ (List.range (y.length + 1)).map (x.length + ·) := by
    rw [List.length_append, Nat.add_assoc, range_split]
  unfold seamsL
  rw [hr, List.filter_append, List.filter_append, List.filter_append]
  have f1 : ∀ (p : Nat → Bool), ((List.range x.length).filter p).filter (fun i => decide (i < x.length)) = (List.range x.length).filter p := fun p => List.filter_eq_self.mpr fun i hi => by
    have := List.mem_range.mp (List.mem_filter.mp hi).1
    simpa using this
  have f2 : ∀ (p : Nat → Bool), (((List.range (y.length + 1)).map (x.length + ·)).filter p).filter (fun i => decide (i < x.length)) = [] := fun p => List.filter_eq_nil_iff.mpr fun i hi => by
    obtain ⟨j, _, rfl⟩ := List.mem_map.mp (List.mem_filter.mp hi).1
    simp
  have f3 : ∀ (p : Nat → Bool), ((List.range x.length).filter p).filter (fun i => decide (x.length ≤ i)) = [] := fun p => List.filter_eq_nil_iff.mpr fun i hi => by
    have := List.mem_range.mp (List.mem_filter.mp hi).1
    simp
    omega
  have f4 : ∀ (p : Nat → Bool), (((List.range (y.length + 1)).map (x.length + ·)).filter p).filter (fun i => decide (x.length ≤ i)) = ((List.range (y.length + 1)).map (x.length + ·)).filter p := fun p => List.filter_eq_self.mpr fun i hi => by
    obtain ⟨j, _, rfl⟩ := List.mem_map.mp (List.mem_filter.mp hi).1
    simp
  rw [f1, f2, f3, f4]
  simp
theorem seams_below (m : M) (x y : Tx) : (seamsL m (x ++ y)).filter (fun i => decide (i ≤ x.length)) = seamsL m x := by
  have hr : List.range ((x ++ y).length + 1) = List.range (x.length + 1) ++ (List.range y.length).map (x.length + 1 + ·) := by
    rw [List.length_append, show x.length + y.length + 1 = (x.length + 1) + y.length by omega, range_split]
  unfold seamsL
  rw [hr, List.filter_append, List.filter_append]
  have f2 : ∀ (p : Nat → Bool), (((List.range y.length).map (x.length + 1 + ·)).filter p).filter (fun i => decide (i ≤ x.length)) = [] := fun p => List.filter_eq_nil_iff.mpr fun i hi => by
    obtain ⟨j, _, rfl⟩ := List.mem_map.mp (List.mem_filter.mp hi).1
    simp
    omega
  rw [f2, List.append_nil, List.filter_filter]
  refine List.filter_congr fun i hi => ?_
  have hi' := List.mem_range.mp hi
  have h1 : decide (i ≤ x.length) = true := decide_eq_true (by omega)
  rw [take_left (show i ≤ x.length by omega), h1]
  rfl
theorem seams_cut (m : M) (x : Tx) (h : IsSeam m x) : seamsL m x = (seamsL m x).filter (fun i => decide (i < x.length)) ++ [x.length] := by
  unfold seamsL
  rw [List.range_succ, List.filter_append, List.filter_append]
  have f1 : ∀ (p : Nat → Bool), ((List.range x.length).filter p).filter (fun i => decide (i < x.length)) = (List.range x.length).filter p := fun p => List.filter_eq_self.mpr fun i hi => by
    have := List.mem_range.mp (List.mem_filter.mp hi).1
    simpa using this
  rw [f1]
  have f2 : [x.length].filter (fun i => seamB m (x.take i)) = [x.length] := by
    rw [List.filter_cons_of_pos (by rw [List.take_length]; exact seamB_iff.mpr h)]
    rfl
  rw [f2]
  simp
theorem seam_over {m : M} {x : Tx} (w : Wd m.letters x) (h : IsSeam m x) {z : Tx} (wz : Wd m.letters z) : IsSeam m (x ++ z) ↔ IsSeam m z := by
  unfold IsSeam
  refine forall_congr' fun y => forall_congr' fun wy => ?_
  rw [List.append_assoc, h (z ++ y) (wz.app wy), h z wz, List.append_assoc]
  exact ⟨fun e => List.append_cancel_left e, fun e => by rw [e]⟩
theorem seams_behind {m : M} {x y : Tx} (wx : Wd m.letters x) (wy : Wd m.letters y) (h : IsSeam m x) : seamsL m (x ++ y) = (seamsL m x).filter (fun i => decide (i < x.length)) ++ (seamsL m y).map (x.length + ·) := by
  have hr : List.range ((x ++ y).length + 1) = List.range x.length ++ (List.range (y.length + 1)).map (x.length + ·) := by
    rw [List.length_append, Nat.add_assoc, range_split]
  have e1 : (seamsL m x).filter (fun i => decide (i < x.length)) = (List.range x.length).filter (fun i => seamB m (x.take i)) := by
    unfold seamsL
    rw [List.range_succ, List.filter_append, List.filter_append]
    have f1 : ∀ (p : Nat → Bool), ((List.range x.length).filter p).filter (fun i => decide (i < x.length)) = (List.range x.length).filter p := fun p => List.filter_eq_self.mpr fun i hi => by
      have := List.mem_range.mp (List.mem_filter.mp hi).1
      simpa using this
    have f2 : ∀ (p : Nat → Bool), ([x.length].filter p).filter (fun i => decide (i < x.length)) = [] := fun p => List.filter_eq_nil_iff.mpr fun i hi => by
      have := List.mem_singleton.mp (List.mem_filter.mp hi).1
      simp
      omega
    rw [f1, f2, List.append_nil]
  rw [e1]
  unfold seamsL
  rw [hr, List.filter_append, List.filter_map]
  congr 1
  · refine List.filter_congr fun i hi => ?_
    have hi' := List.mem_range.mp hi
    rw [take_left (show i ≤ x.length by omega)]
  · congr 1
    refine List.filter_congr fun i hi => ?_
    show seamB m ((x ++ y).take (x.length + i)) = _
    rw [take_over]
    exact seamB_eq (seam_over wx h (wy.take i))
theorem noseam_over {m : M} {x z : Tx} {r r' : Option Tx} (w : Wd m.letters x) (h : IsSeam m x) (wz : Wd m.letters z) (n : NoSeam m (x ++ z) r) (n' : NoSeam m z r') : r = r' := by
  refine FirstOf.uniq n n' fun y wy => ?_
  unfold Bad
  rw [List.append_assoc, h (z ++ y) (wz.app wy), h z wz, List.append_assoc]
  exact not_congr ⟨fun e => List.append_cancel_left e, fun e => by rw [e]⟩
/-! ### pieces -/
def sub (w : Tx) (p : Nat × Nat) : Tx := (w.drop p.1).take (p.2 - p.1)
def pcs (w : Tx) (cs : List Nat) : List Tx := ((cs.zip (cs.drop 1)).filter fun p => decide (p.1 < p.2)).map (sub w)
def cutsOf (ns : List Nat) (w : Tx) : List Nat := [0] ++ ns ++ [w.length]
noncomputable def piecesL (m : M) (w : Tx) : List Tx := pcs w (cutsOf (seamsL m w) w)
theorem zip_split : ∀ (X : List Nat) (c : Nat) (Y : List Nat), (X ++ c :: Y).zip ((X ++ c :: Y).drop 1) = (X ++ [c]).zip ((X ++ [c]).drop 1) ++ (c :: Y).zip ((c :: Y).drop 1)
  | [], c, Y => rfl
  | [a], c, Y => rfl
  | a :: b :: X, c, Y => by
    have ih := zip_split (b :: X) c Y
    show (a, b) :: ((b :: X) ++ c :: Y).zip (((b :: X) ++ c :: Y).drop 1) = (a, b) :: (((b :: X) ++ [c]).zip (((b :: X) ++ [c]).drop 1)) ++ _
    rw [ih]
    rfl
theorem pcs_split (w : Tx) (X : List Nat) (c : Nat) (Y : List Nat) : pcs w (X ++ c :: Y) = pcs w (X ++ [c]) ++ pcs w (c :: Y) := by
  unfold pcs
  rw [zip_split, List.filter_append, List.map_append]
theorem pcs_dup (w : Tx) (X : List Nat) (c : Nat) : pcs w (X ++ [c, c]) = pcs w (X ++ [c]) := by
  rw [show X ++ [c, c] = X ++ c :: [c] from rfl, pcs_split]
  have : pcs w [c, c] = [] := by
    unfold pcs
    show ((List.filter _ [(c, c)]).map _) = []
    rw [List.filter_cons_of_neg (by simp)]
    rfl
  rw [this, List.append_nil]
theorem pcs_congr {w v : Tx} {cs : List Nat} (h : ∀ p ∈ cs.zip (cs.drop 1), p.1 < p.2 → sub w p = sub v p) : pcs w cs = pcs v cs := by
  unfold pcs
  refine List.map_congr_left fun p hp => ?_
  have h1 := List.mem_filter.mp hp
  exact h p h1.1 (of_decide_eq_true h1.2)
theorem pcs_left {x y : Tx} {cs : List Nat} (h : ∀ c ∈ cs, c ≤ x.length) : pcs (x ++ y) cs = pcs x cs := pcs_congr fun p hp hlt => by
  have h2 : p.2 ≤ x.length := h _ (List.mem_of_mem_drop (List.of_mem_zip hp).2)
  unfold sub
  rw [List.drop_append_of_le_length (by omega), List.take_append_of_le_length (by rw [List.length_drop]; omega)]
theorem pcs_shift (x y : Tx) (cs : List Nat) : pcs (x ++ y) (cs.map (x.length + ·)) = pcs y cs := by
  unfold pcs
  have hz : (cs.map (x.length + ·)).zip ((cs.map (x.length + ·)).drop 1) = (cs.zip (cs.drop 1)).map fun p => (x.length + p.1, x.length + p.2) := by
    rw [← List.map_drop, List.zip_map]
    rfl
  rw [hz, List.filter_map, List.map_map]
  have hf : ((fun p : Nat × Nat => decide (p.1 < p.2)) ∘ fun p : Nat × Nat => (x.length + p.1, x.length + p.2)) = fun p : Nat × Nat => decide (p.1 < p.2) := by
    funext p
    show decide (x.length + p.1 < x.length + p.2) = decide (p.1 < p.2)
    simp
  rw [hf]
  refine List.map_congr_left fun p hp => ?_
  show sub (x ++ y) (x.length + p.1, x.length + p.2) = sub y p
  unfold sub
  show ((x ++ y).drop (x.length + p.1)).take (x.length + p.2 - (x.length + p.1)) = _
  rw [List.drop_append, List.drop_of_length_le (by omega), List.nil_append]
  congr 1
  · omega
  · congr 1
    omega
theorem seams_zero {m : M} {y : Tx} (h : m.row [] = []) : ∃ r, seamsL m y = 0 :: r := by
  have h0 : IsSeam m [] := fun z wz => by
    rw [h]
    rfl
  unfold seamsL
  rw [List.range_succ_eq_map, List.filter_cons_of_pos (p := fun i => seamB m (List.take i y)) (seamB_iff.mpr (by rw [List.take_zero]; exact h0))]
  exact ⟨_, rfl⟩
theorem pieces_over {m : M} {x y : Tx} (wx : Wd m.letters x) (wy : Wd m.letters y) (h : IsSeam m x) : piecesL m (x ++ y) = piecesL m x ++ piecesL m y := by
  have e1 := seams_behind wx wy h
  have e2 := seams_cut m x h
  obtain ⟨r, e3⟩ := seams_zero (y := y) (seam_nil h)
  unfold piecesL cutsOf
  generalize hA : (seamsL m x).filter (fun i => decide (i < x.length)) = A at e1 e2
  rw [e1, e2, e3]
  have hAle : ∀ c ∈ A, c ≤ x.length := fun c hc => by
    rw [← hA] at hc
    exact (mem_seams.mp (List.mem_filter.mp hc).1).1
  have lhs : [0] ++ (A ++ (0 :: r).map (x.length + ·)) ++ [(x ++ y).length] = ([0] ++ A) ++ x.length :: ((r ++ [y.length]).map (x.length + ·)) := by
    rw [List.length_append]
    simp
  have l2 : [0] ++ (A ++ [x.length]) ++ [x.length] = ([0] ++ A) ++ [x.length, x.length] := by simp
  have l3 : [0] ++ (0 :: r) ++ [y.length] = [] ++ 0 :: (0 :: (r ++ [y.length])) := by simp
  rw [lhs, l2, l3, pcs_split, pcs_dup, pcs_left (x := x) (y := y)]
  · congr 1
    have e4 : x.length :: ((r ++ [y.length]).map (x.length + ·)) = (0 :: (r ++ [y.length])).map (x.length + ·) := by simp
    rw [e4, pcs_shift, pcs_split]
    have : pcs y ([] ++ [0]) = [] := rfl
    rw [this]
    show _ = pcs y (0 :: 0 :: (r ++ [y.length]))
    have e5 := pcs_split y [0] 0 (r ++ [y.length])
    have e6 : pcs y ([0] ++ [0]) = [] := rfl
    rw [e6] at e5
    exact e5.symm
  · intro c hc
    rcases List.mem_append.mp hc with q | q
    · rcases List.mem_append.mp q with q | q
      · rw [List.mem_singleton.mp q]; exact Nat.zero_le _
      · exact hAle c q
    · rw [List.mem_singleton.mp q]; exact Nat.le_refl _
end K70
set_option Elab.async false
set_option maxRecDepth 100000
set_option maxHeartbeats 4000000
/-! zip of two iterators that ends when both end at once -/
namespace K70
open PySem Sem
/-- a zip made with strict=True -/
abbrev ZipS (h : Heap) (z TI TO : Addr) (f0 : Value) : Prop :=
  h.get? z = some { cls := .type "zip", dict := none, data := .fields #[f0, .bool false, .bool true, .ref TI, .ref TO], slots := #[] }
section
variable {prog : Program} {w : World} {A : Around} {E : Value → Shared → Prop} {s : Shared} {z TI TO i1 i2 it : Addr} {fp fp1 fp2 : List Addr} {n n1 n2 i : Nat} {P P1 P2 : Nat → Value → Prop} {St St1 St2 : Nat → Heap → Prop} {a1 a2 : Value}
theorem drawEnd_item {Q : Option Value → Shared → Prop} (D : Draws prog w A it fp n P St) (st : St i s.heap) (hi : i < n)
    (hQ : ∀ x h' tk, P i x → St (i + 1) h' → Heap.SameBut it s.heap h' → Q (some x) { s with heap := h', toks := tk }) : wpAny (model prog w) A (Builtin.SmallTypes.nextOrEnd (.ref it)) Q E s := by
  unfold Builtin.SmallTypes.nextOrEnd
  exact wpAny_bind (wpAny_attempt (D.item i _ _ _ hi st fun x h' tk px sx hs => wpAny_pure (hQ x h' tk px sx hs)))
theorem drawEnd_done {Q : Option Value → Shared → Prop} (D : Draws prog w A it fp n P St) (st : St n s.heap)
    (hQ : ∀ h', Heap.ExtBut it s.heap h' → Q none { s with heap := h' }) : wpAny (model prog w) A (Builtin.SmallTypes.nextOrEnd (.ref it)) Q E s := by
  unfold Builtin.SmallTypes.nextOrEnd
  refine wpAny_bind (wpAny_attempt (D.done _ _ _ st fun h' e hx he => ?_))
  obtain ⟨o, ho, hc⟩ := he
  refine wpAny_bind (wpAny_isInstance (T := "StopIteration") (b := true) ⟨o, ho, hc⟩ isSubtype_stop ?_)
  exact wpAny_pure (hQ h' hx)
theorem zipS_next_item {Q : Value → Shared → Prop} (S : ZipSep2 z TI TO i1 i2 fp1 fp2) (D1 : Draws prog w A i1 fp1 n1 P1 St1) (D2 : Draws prog w A i2 fp2 n2 P2 St2)
    (hz : ZipS s.heap z TI TO .none) (hTI : IsTupOf2 s.heap TI (.ref i1) (.ref i2)) (hTO : IsTupOf2 s.heap TO a1 a2) (st1 : St1 i s.heap) (st2 : St2 i s.heap) (hlt1 : i < n1) (hlt2 : i < n2)
    (hQ : ∀ x1 x2 h' tk, P1 i x1 → P2 i x2 → ZipS h' z TI TO (rawInt s.heap.objs.size) → IsTupOf2 h' TO x1 x2 → St1 (i + 1) h' → St2 (i + 1) h' → IsTupOf2 h' s.heap.objs.size x1 x2 → h'.objs.size = s.heap.objs.size + 1 →
      (∀ c o, c ≠ z → c ≠ TO → c ≠ i1 → c ≠ i2 → s.heap.get? c = some o → h'.get? c = some o) → Q (.ref s.heap.objs.size) { s with heap := h', toks := tk }) :
    wpAny (model prog w) A (Builtin.«zip.__next__» ⟨[.ref z], []⟩) (fun fin s' => ∃ v, fin = .done (.ret v) ∧ Q v s') E s := by
  obtain ⟨hp, g, d, tk0, os⟩ := s
  show wpAny _ _ (field (.ref z) 2 >>= _) _ _ _
  refine wpAny_bind (wpAny_field hz rfl (x := .bool true) rfl ?_)
  show wpAny _ _ (field (.ref z) 3 >>= _) _ _ _
  refine wpAny_bind (wpAny_field hz rfl (x := .ref TI) rfl ?_)
  refine wpAny_bind (wpAny_seqItems hTI rfl ?_)
  show wpAny _ _ (Builtin.SmallTypes.ownedTupleIsFree (.ref z) >>= _) _ _ _
  refine wpAny_bind ?_
  unfold Builtin.SmallTypes.ownedTupleIsFree
  refine wpAny_bind (wpAny_field hz rfl (x := .none) rfl (wpAny_pure ?_))
  simp only [if_true]
  refine wpAny_bind (wpAny_rule ?_)
  refine wpAny_bind (wpAny_field hz rfl (x := .ref TO) rfl ?_)
  refine wpAny_bind (wpAny_setField_rec hz (by simp) fun g0 hz0 hs0 => ?_)
  replace hz0 : ZipS g0 z TI TO .ellipsis := hz0
  replace hs0 : Heap.SameBut z hp g0 := hs0
  refine wpAny_bind ?_
  simp only [List.zipIdx_cons, List.zipIdx_nil, List.forIn_cons, List.forIn_nil]
  refine wpAny_bind (wpAny_bind (wpAny_onRaise ?_))
  show wpAny _ _ (Builtin.SmallTypes.nextOrEnd (.ref i1)) _ _ ⟨g0, g, d, tk0, os⟩
  refine drawEnd_item D1 (D1.over st1 hs0 S.zf1) hlt1 fun x1 p1 tk1 hx1 sn1 hp1 => ?_
  replace hp1 : Heap.SameBut i1 g0 p1 := hp1
  have hU1 : IsTupOf2 p1 TO a1 a2 := hp1.extBut _ _ S.Ti1 (hs0.extBut _ _ S.TOz hTO)
  refine wpAny_bind (wpAny_seqItems (s := ⟨p1, g, d, tk1, os⟩) hU1 rfl ?_)
  refine wpAny_bind (updateSeq_IsTupOf2 (s := ⟨p1, g, d, tk1, os⟩) hU1 fun g1 hT1 hs1 => ?_)
  replace hT1 : IsTupOf2 g1 TO x1 a2 := hT1
  replace hs1 : Heap.SameBut TO p1 g1 := hs1
  refine wpAny_bind (wpAny_letGo (wpAny_pure ?_))
  refine wpAny_bind (wpAny_bind (wpAny_onRaise ?_))
  show wpAny _ _ (Builtin.SmallTypes.nextOrEnd (.ref i2)) _ _ ⟨g1, g, d, tk1, os⟩
  refine drawEnd_item D2 (D2.over (D2.over (D2.over st2 hs0 S.zf2) hp1 S.sep1_2) hs1 S.Tf2) hlt2 fun x2 p2 tk2 hx2 sn2 hp2 => ?_
  replace hp2 : Heap.SameBut i2 g1 p2 := hp2
  have hU2 : IsTupOf2 p2 TO x1 a2 := hp2.extBut _ _ S.Ti2 hT1
  refine wpAny_bind (wpAny_seqItems (s := ⟨p2, g, d, tk2, os⟩) hU2 rfl ?_)
  refine wpAny_bind (updateSeq_IsTupOf2 (s := ⟨p2, g, d, tk2, os⟩) hU2 fun g2 hT2 hs2 => ?_)
  replace hT2 : IsTupOf2 g2 TO x1 x2 := hT2
  replace hs2 : Heap.SameBut TO p2 g2 := hs2
  refine wpAny_bind (wpAny_letGo (wpAny_pure (wpAny_pure ?_)))
  refine wpAny_bind (wpAny_seqItems (s := ⟨g2, g, d, tk2, os⟩) hT2 rfl ?_)
  refine wpAny_bind (wpAny_newTuple ?_)
  have hsz : g2.objs.size = hp.objs.size := by rw [hs2.1, hp2.1, hs1.1, hp1.1, hs0.1]
  have hzz : ZipS g2 z TI TO .ellipsis := (hs2.extBut _ _ S.TOz.symm (hp2.extBut _ _ S.zi2 (hs1.extBut _ _ S.TOz.symm (hp1.extBut _ _ S.zi1 hz0))))
  have hkk : ∀ c o, c ≠ z → c ≠ TO → c ≠ i1 → c ≠ i2 → hp.get? c = some o → g2.get? c = some o := fun c o cz cT c1 c2 e =>
    (hs2.extBut _ _ cT (hp2.extBut _ _ c2 (hs1.extBut _ _ cT (hp1.extBut _ _ c1 (hs0.extBut _ _ cz e)))))
  have hj1 : St1 (i + 1) g2 := (D1.over (D1.over (D1.over sn1 hs1 S.Tf1) hp2 S.sep2_1) hs2 S.Tf1)
  have hj2 : St2 (i + 1) g2 := (D2.over sn2 hs2 S.Tf2)
  have hzlt : z < g2.objs.size := Heap.lt_size hzz
  show wpAny _ _ (Builtin.SmallTypes.ownedTupleHandOut (.ref z) (.ref g2.objs.size) >>= _) _ _ ⟨g2.push { cls := .type "tuple", data := .seq #[x1, x2] }, g, d, tk2, os⟩
  refine wpAny_bind ?_
  unfold Builtin.SmallTypes.ownedTupleHandOut
  have hz6 : ZipS (g2.push { cls := .type "tuple", data := .seq #[x1, x2] }) z TI TO .ellipsis := Heap.get?_push_of_some _ hzz
  refine wpAny_bind (wpAny_setField_rec hz6 (by simp) fun h7 hz7 hs7 => ?_)
  replace hz7 : ZipS h7 z TI TO (rawInt g2.objs.size) := hz7
  refine wpAny_setField_rec hz7 (by simp) fun h8 hz8 hs8 => ?_
  replace hz8 : ZipS h8 z TI TO (rawInt g2.objs.size) := hz8
  replace hs7 : Heap.SameBut z (g2.push { cls := .type "tuple", data := .seq #[x1, x2] }) h7 := hs7
  replace hs8 : Heap.SameBut z h7 h8 := hs8
  have up : ∀ c o, c ≠ z → g2.get? c = some o → h8.get? c = some o := fun c o c1 e => hs8.extBut _ _ c1 (hs7.extBut _ _ c1 (Heap.get?_push_of_some _ e))
  have hT8 : IsTupOf2 h8 g2.objs.size x1 x2 := hs8.extBut _ _ (Nat.ne_of_gt hzlt) (hs7.extBut _ _ (Nat.ne_of_gt hzlt) (Heap.get?_push_size _ rfl))
  have hsz8 : h8.objs.size = g2.objs.size + 1 := by rw [hs8.1, hs7.1, Heap.size_push]
  rw [hsz] at hz8 hT8 hsz8
  refine wpAny_pure ⟨_, rfl, ?_⟩
  show Q (.ref g2.objs.size) ⟨h8, g, d, tk2, os⟩
  rw [hsz]
  exact hQ x1 x2 h8 tk2 hx1 hx2 hz8 (up _ _ S.TOz hT2) (D1.frame _ _ _ hj1 fun b hb o e => up b o (fun q => S.zf1 (q ▸ hb)) e) (D2.frame _ _ _ hj2 fun b hb o e => up b o (fun q => S.zf2 (q ▸ hb)) e) hT8 hsz8 fun c o cz cT c1 c2 e => up c o cz (hkk c o cz cT c1 c2 e)
theorem zipS_next_end {Q : Fin → Shared → Prop} (hh : A.handled = none) (S : ZipSep2 z TI TO i1 i2 fp1 fp2) (D1 : Draws prog w A i1 fp1 n1 P1 St1) (D2 : Draws prog w A i2 fp2 n2 P2 St2)
    (hz : ZipS s.heap z TI TO .none) (hTI : IsTupOf2 s.heap TI (.ref i1) (.ref i2)) (hTO : IsTupOf2 s.heap TO a1 a2) (st1 : St1 n1 s.heap) (st2 : St2 n2 s.heap)
    (hE : ∀ h' e, (∀ c o, c ≠ z → c ≠ TO → c ≠ i1 → c ≠ i2 → s.heap.get? c = some o → h'.get? c = some o) → (∃ o, h'.get? e = some o ∧ o.cls = .type "StopIteration") → E (.ref e) { s with heap := h' }) :
    wpAny (model prog w) A (Builtin.«zip.__next__» ⟨[.ref z], []⟩) Q E s := by
  obtain ⟨hp, g, d, tk0, os⟩ := s
  show wpAny _ _ (field (.ref z) 2 >>= _) _ _ _
  refine wpAny_bind (wpAny_field hz rfl (x := .bool true) rfl ?_)
  show wpAny _ _ (field (.ref z) 3 >>= _) _ _ _
  refine wpAny_bind (wpAny_field hz rfl (x := .ref TI) rfl ?_)
  refine wpAny_bind (wpAny_seqItems hTI rfl ?_)
  show wpAny _ _ (Builtin.SmallTypes.ownedTupleIsFree (.ref z) >>= _) _ _ _
  refine wpAny_bind ?_
  unfold Builtin.SmallTypes.ownedTupleIsFree
  refine wpAny_bind (wpAny_field hz rfl (x := .none) rfl (wpAny_pure ?_))
  simp only [if_true]
  refine wpAny_bind (wpAny_rule ?_)
  refine wpAny_bind (wpAny_field hz rfl (x := .ref TO) rfl ?_)
  refine wpAny_bind (wpAny_setField_rec hz (by simp) fun g0 hz0 hs0 => ?_)
  replace hz0 : ZipS g0 z TI TO .ellipsis := hz0
  replace hs0 : Heap.SameBut z hp g0 := hs0
  refine wpAny_bind ?_
  simp only [List.zipIdx_cons, List.zipIdx_nil, List.forIn_cons, List.forIn_nil]
  refine wpAny_bind (wpAny_bind (wpAny_onRaise ?_))
  show wpAny _ _ (Builtin.SmallTypes.nextOrEnd (.ref i1)) _ _ ⟨g0, g, d, tk0, os⟩
  refine drawEnd_done D1 (D1.over st1 hs0 S.zf1) fun q hq => ?_
  replace hq : Heap.ExtBut i1 g0 q := hq
  have hzq : ZipS q z TI TO .ellipsis := hq _ _ S.zi1 hz0
  refine wpAny_bind (wpAny_setField_rec (s := ⟨q, g, d, tk0, os⟩) hzq (by simp) fun q1 hz1 hs1 => ?_)
  replace hs1 : Heap.SameBut z q q1 := hs1
  refine wpAny_bind (wpAny_bind ?_)
  simp only [List.drop_succ_cons, List.drop_zero, List.zipIdx_cons, List.zipIdx_nil, List.forIn_cons, List.forIn_nil]
  refine wpAny_bind (wpAny_bind ?_)
  have st2' : St2 n2 q1 := D2.over (D2.frame _ _ _ (D2.over st2 hs0 S.zf2) fun b hb o e => hq b o (fun x => S.sep1_2 (x ▸ hb)) e) hs1 S.zf2
  refine drawEnd_done (s := ⟨q1, g, d, tk0, os⟩) D2 st2' fun r hr => ?_
  replace hr : Heap.ExtBut i2 q1 r := hr
  refine wpAny_pure (wpAny_pure (wpAny_bind (wpAny_rule ?_)))
  show wpAny _ _ (newExc (.type "StopIteration") [] >>= _) _ _ _
  refine wpAny_bind ?_
  simp only [newExc, newTuple]
  refine wpAny_bind (wpAny_newObj_type ?_ (by size_fits))
  refine wpAny_bind (m := firstArgMember _ _) (wpAny_of_eq (a := Value.none) (by first | rfl | (simp only [firstArgMember]; rfl)) ?_)
  refine wpAny_newObj_type ?_ (by size_fits)
  simp only [raiseNew]
  refine wpAny_bind (wpAny_handled ?_)
  first | rw [show A.in1.handled = none from hh] | rw [hh]
  refine wpAny_bind (wpAny_pure (wpAny_throw ?_))
  refine hE _ _ (fun c o cz cT c1 c2 e => ?_) ⟨_, Heap.get?_push_size _ rfl, rfl⟩
  exact Heap.get?_push_of_some _ (Heap.get?_push_of_some _ (hr _ _ c2 (hs1.extBut _ _ cz (hq _ _ c1 (hs0.extBut _ _ cz e)))))
theorem next_zipS_item {Q : Option Value → Shared → Prop} (S : ZipSep2 z TI TO i1 i2 fp1 fp2) (D1 : Draws prog w A.in1 i1 fp1 n1 P1 St1) (D2 : Draws prog w A.in1 i2 fp2 n2 P2 St2)
    (hz : ZipS s.heap z TI TO .none) (hTI : IsTupOf2 s.heap TI (.ref i1) (.ref i2)) (hTO : IsTupOf2 s.heap TO a1 a2) (st1 : St1 i s.heap) (st2 : St2 i s.heap) (hlt1 : i < n1) (hlt2 : i < n2)
    (hQ : ∀ x1 x2 h' tk, P1 i x1 → P2 i x2 → ZipS h' z TI TO (rawInt s.heap.objs.size) → IsTupOf2 h' TO x1 x2 → St1 (i + 1) h' → St2 (i + 1) h' → IsTupOf2 h' s.heap.objs.size x1 x2 → h'.objs.size = s.heap.objs.size + 1 →
      (∀ c o, c ≠ z → c ≠ TO → c ≠ i1 → c ≠ i2 → s.heap.get? c = some o → h'.get? c = some o) → Q (some (.ref s.heap.objs.size)) { s with heap := h', toks := tk }) :
    wpAny (model prog w) A (pyNext (.ref z)) Q E s := by
  have hT : s.TypeIs (.ref z) "zip" := ⟨_, hz, rfl⟩
  unfold pyNext
  exact wpAny_bind (wpAny_attempt (wpAny_callSpecial?_slot (name := Str.ofString "__next__") hT F.slot_zip_next
    (wpAny_call_entry F.slot_zip_next hT F.entry_zip_next
      (zipS_next_item S D1 D2 hz hTI hTO st1 st2 hlt1 hlt2 fun x1 x2 h' tk y1 y2 b1 b2 d1 d2 b5 b6 b7 => wpAny_pure (hQ x1 x2 h' tk y1 y2 b1 b2 d1 d2 b5 b6 b7)) (F.args_zip_next_1 _))))
theorem next_zipS_end {Q : Option Value → Shared → Prop} (hh : A.handled = none) (S : ZipSep2 z TI TO i1 i2 fp1 fp2) (D1 : Draws prog w A.in1 i1 fp1 n1 P1 St1) (D2 : Draws prog w A.in1 i2 fp2 n2 P2 St2)
    (hz : ZipS s.heap z TI TO .none) (hTI : IsTupOf2 s.heap TI (.ref i1) (.ref i2)) (hTO : IsTupOf2 s.heap TO a1 a2) (st1 : St1 n1 s.heap) (st2 : St2 n2 s.heap)
    (hQ : ∀ h', (∀ c o, c ≠ z → c ≠ TO → c ≠ i1 → c ≠ i2 → s.heap.get? c = some o → h'.get? c = some o) → Q none { s with heap := h' }) : wpAny (model prog w) A (pyNext (.ref z)) Q E s := by
  have hT : s.TypeIs (.ref z) "zip" := ⟨_, hz, rfl⟩
  unfold pyNext
  refine wpAny_bind (wpAny_attempt (wpAny_callSpecial?_slot (name := Str.ofString "__next__") hT F.slot_zip_next
    (wpAny_call_entry F.slot_zip_next hT F.entry_zip_next (zipS_next_end (A := A.in1) hh S D1 D2 hz hTI hTO st1 st2 fun h' e hk he => ?_) (F.args_zip_next_1 _))))
  obtain ⟨o, ho, hc⟩ := he
  refine wpAny_bind (wpAny_isInstance (T := "StopIteration") (b := true) ⟨o, ho, hc⟩ isSubtype_stop ?_)
  exact wpAny_pure (hQ _ hk)
/-- the pair that was handed out is let go -/
theorem go_zipS {elts : List Expr} {k : Nat} {pos : Pos} {T : Addr} {Q : Unit → Shared → Prop} (hz : ZipS s.heap z TI TO (rawInt T))
    (hQ : ∀ h', ZipS h' z TI TO .none → Heap.SameBut z s.heap h' → Q () { s with heap := h' }) : wpAny (model prog w) A (letOwnedTupleGo (.Tuple elts k pos) (.ref z) (.ref T)) Q E s := by
  unfold letOwnedTupleGo
  refine wpAny_bind (wpAny_load hz ?_)
  refine wpAny_ite ?_
  rw [if_pos (by simp)]
  refine wpAny_bind (wpAny_rule ?_)
  show wpAny _ _ (setField (.ref z) 0 .none) Q E s
  exact wpAny_setField_rec hz (by simp) fun h' hz' hs' => hQ h' hz' hs'
theorem iter_zipS {f0 : Value} {Q : Value → Shared → Prop} (hz : ZipS s.heap z TI TO f0) (h : Q (.ref z) s) : wpAny (model prog w) A (pyIter (.ref z)) Q E s := by
  have hT : s.TypeIs (.ref z) "zip" := ⟨_, hz, rfl⟩
  refine wpAny_pyIter_slot hT F.slot_zip_iter (wpAny_call_entry F.slot_zip_iter hT F.entry_zip_iter ?_ (F.args_zip_iter_1 _))
  show wpAny _ _ (ret (.ref z)) _ _ s
  exact wpAny_pure ⟨_, rfl, "zip", _, hT, F.slot_zip_next.lookup, h⟩
theorem fT (a b : Value) : checkTypeCall "zip" ⟨[a, b], [(Str.ofString "strict", .bool true)]⟩ = pure () := by kernel_rfl
theorem fN (a b : Value) : checkBuiltinCall "zip.__new__" ⟨[.type "zip", a, b], [(Str.ofString "strict", .bool true)]⟩ = pure () := by kernel_rfl
theorem fA (o a b : Value) : argsOk "object.__init__" ⟨[o, a, b], [(Str.ofString "strict", .bool true)]⟩ := by unfold argsOk; kernel_rfl
abbrev zsZ (h : Heap) (o1 o2 : Obj) : Heap := (gzO2 h o1 o2).push { cls := .type "zip", data := .fields #[.none, .bool false, .bool true, .ref ((h.push o1).push o2).objs.size, .ref (gzT2 h o1 o2).objs.size] }
theorem meets_zipS {v1 v2 : Value} {o1 o2 : Obj} {H1 H2 : Heap → Prop} (B1 : Begins v1 o1 H1) (B2 : Begins v2 o2 H2) :
    Meets (Builtin.«zip.__new__» ⟨[.type "zip", v1, v2], [(Str.ofString "strict", .bool true)]⟩) (fun _ R s => (H1 s.heap ∧ H2 s.heap) ∧
      R (.ok (.ret (.ref (gzO2 s.heap o1 o2).objs.size))) { s with heap := zsZ s.heap o1 o2 }) :=
  .of_wp fun prog w A R s h => by
    obtain ⟨hp, g, d, tk, os⟩ := s; obtain ⟨⟨h1, h2⟩, h⟩ := h
    have hsub := sub_zip
    have q1 : ∀ {A' : Around} {E : Value → Shared → Prop} {Q : Value → Shared → Prop}, Q (.ref hp.objs.size) ⟨(hp.push o1), g, d, tk, os⟩ → wpAny (model prog w) A' (pyIter v1) Q E ⟨hp, g, d, tk, os⟩ :=
      fun q => B1.iter prog w _ _ ⟨hp, g, d, tk, os⟩ _ (B1.keeps _ _ h1 fun b o' e => e) q
    have q2 : ∀ {A' : Around} {E : Value → Shared → Prop} {Q : Value → Shared → Prop}, Q (.ref (hp.push o1).objs.size) ⟨((hp.push o1).push o2), g, d, tk, os⟩ → wpAny (model prog w) A' (pyIter v2) Q E ⟨(hp.push o1), g, d, tk, os⟩ :=
      fun q => B2.iter prog w _ _ ⟨(hp.push o1), g, d, tk, os⟩ _ (B2.keeps _ _ h2 fun b o' e => (Heap.get?_push_of_some _ e)) q
    have e1 : (Str.ofString "strict" == ("strict" : Str)) = true := by decide +kernel
    have e2 : (Str.ofString "strict" != ("strict" : Str)) = false := by decide +kernel
    have e3 : (("strict" : Str) == Str.ofString "strict") = true := by decide +kernel
    wp_walk using q1, q2
    exact ⟨_, rfl, h⟩
theorem zipS_begins {v1 v2 : Value} {o1 o2 : Obj} {H1 H2 : Heap → Prop} {Q : Value → Shared → Prop} (B1 : Begins v1 o1 H1) (B2 : Begins v2 o2 H2) (h1 : H1 s.heap) (h2 : H2 s.heap)
    (h : ∀ h', ZipS h' (s.heap.objs.size + 4) (s.heap.objs.size + 2) (s.heap.objs.size + 3) .none → IsTupOf2 h' (s.heap.objs.size + 2) (.ref s.heap.objs.size) (.ref (s.heap.objs.size + 1)) →
      IsTupOf2 h' (s.heap.objs.size + 3) .none .none → h'.get? s.heap.objs.size = some o1 → h'.get? (s.heap.objs.size + 1) = some o2 → h'.objs.size = s.heap.objs.size + 5 →
      (∀ c o, s.heap.get? c = some o → h'.get? c = some o) → Q (.ref (s.heap.objs.size + 4)) { s with heap := h' }) :
    wpAny (model prog w) A (call (.type "zip") [v1, v2] [(Str.ofString "strict", .bool true)]) Q E s := by
  refine callType_newKw F.called_zip (by decide) (fT _ _) (fN _ _) (fun obj => fA obj _ _) F.entry_zip_new (meets_zipS B1 B2) ⟨⟨h1, h2⟩, ?_⟩
  have z1 : (s.heap.push o1).objs.size = s.heap.objs.size + 1 := by rw [Heap.size_push]
  have z2 : ((s.heap.push o1).push o2).objs.size = s.heap.objs.size + 2 := by rw [Heap.size_push, z1]
  have zT : (gzT2 s.heap o1 o2).objs.size = s.heap.objs.size + 3 := by rw [Heap.size_push, z2]
  have zO : (gzO2 s.heap o1 o2).objs.size = s.heap.objs.size + 4 := by rw [Heap.size_push, zT]
  have zZ : (zsZ s.heap o1 o2).objs.size = s.heap.objs.size + 5 := by rw [Heap.size_push, zO]
  have gZ : (zsZ s.heap o1 o2).get? (gzO2 s.heap o1 o2).objs.size = some { cls := .type "zip", data := .fields #[.none, .bool false, .bool true, .ref ((s.heap.push o1).push o2).objs.size, .ref (gzT2 s.heap o1 o2).objs.size] } := Heap.get?_push_size _ rfl
  have gO : (zsZ s.heap o1 o2).get? (gzT2 s.heap o1 o2).objs.size = some { cls := .type "tuple", data := .seq #[.none, .none] } := Heap.get?_push_of_some _ (Heap.get?_push_size _ rfl)
  have gT : (zsZ s.heap o1 o2).get? ((s.heap.push o1).push o2).objs.size = some { cls := .type "tuple", data := .seq #[.ref s.heap.objs.size, .ref (s.heap.push o1).objs.size] } := Heap.get?_push_of_some _ (Heap.get?_push_of_some _ (Heap.get?_push_size _ rfl))
  have g1 : (zsZ s.heap o1 o2).get? s.heap.objs.size = some o1 := Heap.get?_push_of_some _ (Heap.get?_push_of_some _ (Heap.get?_push_of_some _ (Heap.get?_push_of_some _ (Heap.get?_push_size _ B1.free))))
  have g2 : (zsZ s.heap o1 o2).get? (s.heap.push o1).objs.size = some o2 := Heap.get?_push_of_some _ (Heap.get?_push_of_some _ (Heap.get?_push_of_some _ (Heap.get?_push_size _ B2.free)))
  rw [zO, zT, z2] at gZ
  rw [zT] at gO
  rw [z2, z1] at gT
  rw [z1] at g2
  show _ ∧ _
  rw [zO]
  exact ⟨⟨_, gZ, rfl⟩, h _ gZ gT gO g1 g2 zZ fun c o e => Heap.get?_push_of_some _ (Heap.get?_push_of_some _ (Heap.get?_push_of_some _ (Heap.get?_push_of_some _ (Heap.get?_push_of_some _ e))))⟩
end
end K70
namespace K70
open PySem PySem.Spec PyProof.Rows L2
/-! ## a built-in class called with keywords -/
section
variable {M : Model} {A : Around} {E : Value → Shared → Prop} {s : Shared} {env : Env}
theorem callWith_tkw {pos : Pos} {T : String} {e : Expr} {rest : List Expr} {kws : List Keyword} {Q : Value → Shared → Prop}
    (h : wpAny M A (spliced (backTo pos (starEach (e :: rest) env))) (fun vs s1 => wpAny M A (evalAll ((backToKw pos (keywordEach kws env)).map (·.2)))
      (fun kvs s2 => wpAny M A (call (.type T) vs (((backToKw pos (keywordEach kws env)).filterMap (·.1)).zip kvs)) Q E s2) E s1) E s)
    (he : backTo pos (starEach (e :: rest) env) = (false, eval e env) :: backTo pos (starEach rest env) := by rfl)
    (hplain : (backTo pos (starEach (e :: rest) env)).any (·.1) = false := by rfl)
    (hall : (backToKw pos (keywordEach kws env)).all (·.1.isSome) = true := by rfl)
    (hkw : (backToKw pos (keywordEach kws env)).any (·.1.isNone) = false := by rfl) :
    wpAny M A (callWith pos (.type T) [] (backTo pos (starEach (e :: rest) env)) (backToKw pos (keywordEach kws env))) Q E s := by
  unfold callWith
  rw [he] at h hplain ⊢
  refine wpAny_bind (wpAny_holding (wpAny_mono (evalArgs_kwB (f := .type T) (Q := fun a s1 => wpAny M A (call (.type T) a.pos a.kw) Q E s1) hall h) (fun a s1 h1 => wpAny_bind (wpAny_standAt ?_)) fun _ _ x => x))
  simp only [hplain, hkw, Bool.or_false]
  refine wpAny_bind (wpAny_pure ?_)
  exact wpAny_bind (wpAny_mono h1 (fun r s2 hr => wpAny_bind (wpAny_holding (wpAny_point (wpAny_pure hr)))) fun _ _ x => x)
end
/-! ## what is walked: a list, or a text sign by sign -/
def sgn (c : Nat) : V := .str ⟨#[c]⟩
def Src (K : PySem.W.Frag) (H : Hp) (x : V) (xs : List V) : Prop := match x with
  | .ref a => SqL K H a xs
  | .str z => xs = z.cps.toList.map sgn
  | _ => False
def ItAt (h : Heap) (x : V) (it : Addr) (i : Nat) : Prop := match x with
  | .ref a => h.IsListIter it a i
  | .str z => ∃ t, h.IsStrIter it (strIterType z) z t i
  | _ => False
theorem ItAt.obj {h : Heap} {x : V} {it : Addr} {i : Nat} (st : ItAt h x it i) : ∃ o, h.get? it = some o ∧ ∀ v, o.data ≠ .cell v := by
  cases x with
  | ref a => obtain ⟨o, e, _, d⟩ := st; exact ⟨o, e, fun v q => by rw [d] at q; cases q⟩
  | str z => obtain ⟨t, o, e, _, d⟩ := st; exact ⟨o, e, fun v q => by rw [d] at q; cases q⟩
  | _ => exact st.elim
theorem ItAt.at_ {h h' : Heap} {x : V} {it : Addr} {i : Nat} (st : ItAt h x it i) (k : ∀ o, h.get? it = some o → h'.get? it = some o) : ItAt h' x it i := by
  cases x with
  | ref a => exact Heap.IsListIter.at st fun o e => k o e
  | str z => obtain ⟨t, o, e, r⟩ := st; exact ⟨t, o, k o e, r⟩
  | _ => exact st.elim
section
variable {X : Cx} {pins : List (Addr × Obj)} {σ : L2.St} {H : Hp} {s : Shared}
theorem src_inj (I : L2.Inv X pins σ H s) {x : V} {xs ys : List V} (h : Src X.K H x xs) (h' : Src X.K H x ys) : xs = ys := by
  cases x with
  | ref a => exact I.list_inj h h'
  | str z => exact Eq.trans h (Eq.symm h')
  | _ => exact h.elim
/-- one step of what draws from it -/
theorem src_draws (I : L2.Inv X pins σ H s) (hc : X.calm = true) {x : V} {xs : List V} (q : Src X.K H x xs) {it : Addr} {i : Nat} (st : ItAt s.heap x it i) (sep : ∀ a, x = .ref a → a ≠ it) :
    ∃ (fp : List Addr) (P : Nat → Value → Prop) (St : Nat → Heap → Prop), Draws X.prog X.w X.A.in1 it fp xs.length P St ∧ St i s.heap ∧ it ∈ fp ∧ (∀ b ∈ fp, b = it ∨ x = .ref b) ∧
      (∀ j v, P j v → ∃ y, xs[j]? = some y ∧ RelV y v) ∧ ∀ j h', St j h' → ItAt h' x it j := by
  have hh : X.A.in1.handled = none := I.ok.hd hc
  cases x with
  | ref a =>
    obtain ⟨its, rv, p, _⟩ := I.list q
    have hl : xs.length = its.toArray.size := by rw [rv.length]; simp
    rw [hl]
    refine ⟨[it, a], _, _, Draws.list hh it a (sep a rfl) its.toArray, ⟨st, p.isList⟩, by simp, fun b hb => ?_, fun j v hv => ?_, fun j h' st' => st'.1⟩
    · rcases List.mem_cons.mp hb with e | e
      · exact .inl e
      · exact .inr (by rw [List.mem_singleton.mp e])
    · have hv' : its[j]? = some v := by simpa using hv
      have hj : j < xs.length := by
        rw [rv.length]
        exact (List.getElem?_eq_some_iff.mp hv').1
      obtain ⟨u, e1, r1⟩ := rv.get (i := j) (List.getElem?_eq_getElem hj)
      rw [hv'] at e1
      cases e1
      exact ⟨_, List.getElem?_eq_getElem hj, r1⟩
  | str z =>
    obtain ⟨t, st⟩ := st
    have e : xs = z.cps.toList.map sgn := q
    subst e
    have hl : (z.cps.toList.map sgn).length = z.cps.size := by simp
    rw [hl]
    refine ⟨[it], _, _, Draws.text hh it z t, st, by simp, fun b hb => .inl (List.mem_singleton.mp hb), fun j v hv => ?_, fun j h' st' => ⟨t, st'⟩⟩
    obtain ⟨c, u, e1, rfl⟩ := hv
    exact ⟨sgn c, by simp [e1], ⟨u, rfl⟩⟩
  | _ => exact q.elim
end
/-! ## zip of two that end at once -/
def ItzS (K : PySem.W.Frag) (x y : V) : It :=
  ⟨fun i H => ∃ (xs ys : List V), Src K H x xs ∧ Src K H y ys ∧ i < xs.length ∧ i < ys.length,
    fun i H v H' => ∃ T u w, v = .ref T ∧ H T = none ∧ H' = upd H T (.tup [u, w]) ∧ (∀ xs, Src K H x xs → xs[i]? = some u) ∧ ∀ ys, Src K H y ys → ys[i]? = some w,
    fun i H => ∃ xs ys : List V, Src K H x xs ∧ Src K H y ys ∧ xs.length = i ∧ ys.length = i⟩
/-- the walked things lie apart from the zip's own -/
structure ApS (x y : V) (z TI TO i1 i2 : Addr) : Prop where
  TIz : TI ≠ z
  TOz : TO ≠ z
  TITO : TI ≠ TO
  TI1 : TI ≠ i1
  TI2 : TI ≠ i2
  TO1 : TO ≠ i1
  TO2 : TO ≠ i2
  z1 : z ≠ i1
  z2 : z ≠ i2
  i12 : i1 ≠ i2
  x : ∀ a, x = .ref a → a ≠ z ∧ a ≠ TO ∧ a ≠ i1 ∧ a ≠ i2
  y : ∀ a, y = .ref a → a ≠ z ∧ a ≠ TO ∧ a ≠ i1 ∧ a ≠ i2
theorem ApS.sep {x y : V} {z TI TO i1 i2 : Addr} (D : ApS x y z TI TO i1 i2) {fp1 fp2 : List Addr} (m1 : i1 ∈ fp1) (m2 : i2 ∈ fp2) (h1 : ∀ b ∈ fp1, b = i1 ∨ x = .ref b) (h2 : ∀ b ∈ fp2, b = i2 ∨ y = .ref b) : ZipSep2 z TI TO i1 i2 fp1 fp2 where
  TIz := D.TIz
  TOz := D.TOz
  TITO := D.TITO
  TIi1 := D.TI1
  mem1 := m1
  zf1 := fun q => (h1 _ q).elim D.z1 fun e => (D.x _ e).1 rfl
  Tf1 := fun q => (h1 _ q).elim D.TO1 fun e => (D.x _ e).2.1 rfl
  TIi2 := D.TI2
  mem2 := m2
  zf2 := fun q => (h2 _ q).elim D.z2 fun e => (D.y _ e).1 rfl
  Tf2 := fun q => (h2 _ q).elim D.TO2 fun e => (D.y _ e).2.1 rfl
  sep1_2 := fun q => (h2 _ q).elim D.i12 fun e => (D.y _ e).2.2.1 rfl
  sep2_1 := fun q => (h1 _ q).elim (fun e => D.i12 e.symm) fun e => (D.x _ e).2.2.2 rfl
theorem turn_zipS {P : Program} {w : World} {K : PySem.W.Frag} {elts : List Expr} {kk : Nat} {tpos : Pos} {x y : V} {z TI TO i1 i2 : Addr} (D : ApS x y z TI TO i1 i2) :
    Turn P w K (.Tuple elts kk tpos) (ItzS K x y) [z, TI, TO, i1, i2] z (fun i h => ZipS h z TI TO .none ∧ IsTupOf2 h TI (.ref i1) (.ref i2) ∧ (∃ a b, IsTupOf2 h TO a b) ∧ ItAt h x i1 i ∧ ItAt h y i2 i) where
  mem := by simp
  obj := fun i h st c hcm => by
    obtain ⟨hz, hTI, ⟨a, b, hTO⟩, h1, h2⟩ := st
    have e' : c = z ∨ c = TI ∨ c = TO ∨ c = i1 ∨ c = i2 := by simpa using hcm
    rcases e' with q | q | q | q | q
    · rw [q]; exact ⟨_, hz, fun v q => nomatch q⟩
    · rw [q]; exact ⟨_, hTI, fun v q => nomatch q⟩
    · rw [q]; exact ⟨_, hTO, fun v q => nomatch q⟩
    · rw [q]; exact h1.obj
    · rw [q]; exact h2.obj
  keep := fun i h h' st k => by
    obtain ⟨hz, hTI, ⟨a, b, hTO⟩, h1, h2⟩ := st
    exact ⟨k z (by simp) _ hz, k TI (by simp) _ hTI, ⟨a, b, k TO (by simp) _ hTO⟩, h1.at_ fun o q => k i1 (by simp) o q, h2.at_ fun o q => k i2 (by simp) o q⟩
  item := by
    intro X hP hw hK hc i pins s σ H E I hf st hg
    subst hP hw hK
    obtain ⟨hz, hTI, ⟨a, b, hTO⟩, h1, h2⟩ := st
    obtain ⟨xs, ys, hqx, hqy, hx, hy⟩ := hg
    obtain ⟨fp1, P1, St1, D1, t1, m1, f1, p1, o1⟩ := src_draws I hc hqx h1 fun a e => (D.x a e).2.2.1
    obtain ⟨fp2, P2, St2, D2, t2, m2, f2, p2, o2⟩ := src_draws I hc hqy h2 fun a e => (D.y a e).2.2.2
    have hzl : z < s.heap.objs.size := Heap.lt_size hz
    refine next_zipS_item (D.sep m1 m2 f1 f2) D1 D2 hz hTI hTO t1 t2 hx hy fun u v h' tk hu hv z' TO' s1 s2 hT hsz hk => ?_
    obtain ⟨u', eu, ru⟩ := p1 i u hu
    obtain ⟨v', ev, rv⟩ := p2 i v hv
    refine ⟨_, rfl, go_zipS (s := { s with heap := h', toks := tk }) z' fun h'' z'' sb => ?_⟩
    have hT2 : h''.get? s.heap.objs.size = some { cls := .type "tuple", data := .seq #[u, v] } := (sb.2 _ (Nat.ne_of_gt hzl)).trans hT
    have new : ObjOk X.prog X.w (upd H s.heap.objs.size (.tup [u', v'])) h'' s.heap.objs.size (.tup [u', v']) :=
      ⟨by show 2 ≤ sizeLine; decide, [u, v], .cons ru (.cons rv .nil), ⟨_, hT2, rfl, _, rfl⟩⟩
    have I1 : L2.Inv X pins σ (upd H s.heap.objs.size (.tup [u', v'])) { s with heap := h'', toks := tk } :=
      I.turnedNew (t' := tk) (ch := [z, TI, TO, i1, i2]) (fun c o hb q => (sb.2 c (fun q' => hb (by simp [q']))).trans (hk c o (fun q' => hb (by simp [q'])) (fun q' => hb (by simp [q'])) (fun q' => hb (by simp [q'])) (fun q' => hb (by simp [q'])) q)) hf (Nat.le_refl _) new
    refine ⟨.ref s.heap.objs.size, _, I1, rfl, ⟨_, u', v', rfl, I.hok.fresh (Nat.le_refl _), rfl, fun l hl => by rw [src_inj I hl hqx]; exact eu, fun l hl => by rw [src_inj I hl hqy]; exact ev⟩, ⟨z'', ?_, ⟨u, v, ?_⟩, ?_, ?_⟩, fun c hcm => ?_⟩
    · exact (sb.2 _ D.TIz).trans (hk _ _ D.TIz D.TITO D.TI1 D.TI2 hTI)
    · exact (sb.2 _ D.TOz).trans TO'
    · exact (o1 _ _ s1).at_ fun o q => (sb.2 _ (Ne.symm D.z1)).trans q
    · exact (o2 _ _ s2).at_ fun o q => (sb.2 _ (Ne.symm D.z2)).trans q
    · have hlt : c < s.heap.objs.size := by
        have e' : c = z ∨ c = TI ∨ c = TO ∨ c = i1 ∨ c = i2 := by simpa using hcm
        rcases e' with q | q | q | q | q
        · rw [q]; exact hzl
        · rw [q]; exact Heap.lt_size hTI
        · rw [q]; exact Heap.lt_size hTO
        · rw [q]; obtain ⟨_, e1, _⟩ := h1.obj; exact Heap.lt_size e1
        · rw [q]; obtain ⟨_, e2, _⟩ := h2.obj; exact Heap.lt_size e2
      rw [upd_ne (Nat.ne_of_lt hlt)]
      exact (hf c hcm).1
  done := by
    intro X hP hw hK hc i pins s σ H E I hf st hg
    subst hP hw hK
    obtain ⟨hz, hTI, ⟨a, b, hTO⟩, h1, h2⟩ := st
    obtain ⟨xs, ys, hqx, hqy, hx, hy⟩ := hg
    obtain ⟨fp1, P1, St1, D1, t1, m1, f1, p1, o1⟩ := src_draws I hc hqx h1 fun a e => (D.x a e).2.2.1
    obtain ⟨fp2, P2, St2, D2, t2, m2, f2, p2, o2⟩ := src_draws I hc hqy h2 fun a e => (D.y a e).2.2.2
    refine next_zipS_end (I.ok.hd hc) (D.sep m1 m2 f1 f2) D1 D2 hz hTI hTO (by rw [hx]; exact t1) (by rw [hy]; exact t2) fun h' hk => ⟨rfl, I.turnedL (t' := s.toks) (ch := [z, TI, TO, i1, i2]) (fun c o hb q =>
      hk c o (fun q' => hb (by simp [q'])) (fun q' => hb (by simp [q'])) (fun q' => hb (by simp [q'])) (fun q' => hb (by simp [q'])) q) hf⟩
  self := fun A i s Q E st h => iter_zipS st.1 h
def iZipS (K : PySem.W.Frag) (ta : TA) : TI := fun σ H R => ta σ H fun vs H1 => ∃ x y xs ys, vs = [x, y] ∧ Src K H1 x xs ∧ Src K H1 y ys ∧ R (ItzS K x y) H1
theorem src_begins {X : Cx} {pins : List (Addr × Obj)} {σ : L2.St} {H : Hp} {s : Shared} (I : L2.Inv X pins σ H s) {x : V} {xs : List V} (q : Src X.K H x xs) {u : Value} (r : RelV x u) :
    ∃ (o : Obj) (Hb : Heap → Prop), Begins u o Hb ∧ Hb s.heap ∧ (∀ h' it, h'.get? it = some o → ItAt h' x it 0) ∧ ∀ a, x = .ref a → a < s.heap.objs.size := by
  cases x with
  | ref a =>
    obtain ⟨its, rv, p, _⟩ := I.list q
    obtain rfl : u = Value.ref a := r
    exact ⟨_, _, begins_list a its.toArray, p.isList, fun h' it e => ⟨_, e, rfl, rfl⟩, fun b e => by cases e; exact p.lt⟩
  | str z =>
    obtain ⟨t, rfl⟩ := r
    exact ⟨_, _, begins_text z t, trivial, fun h' it e => ⟨t, _, e, rfl, rfl⟩, fun b e => by cases e⟩
  | _ => exact q.elim
theorem pi_zipS {X : Cx} {e e2 : Expr} {ta : TA} {p pos tpos kpos cpos : Pos} {kc : Nat} {elts : List Expr} {kk : Nat} (hg : Gl X "zip") (hm : X.mg "zip" = none) (ha : PA X [e, e2] ta)
    (he : backTo pos (starEach [e, e2] X.env) = (false, eval e X.env) :: backTo pos (starEach [e2] X.env) := by rfl) (hpl : (backTo pos (starEach [e, e2] X.env)).any (·.1) = false := by rfl) :
    PI X (.Tuple elts kk tpos) (.Call (.Name "zip" p) [e, e2] [⟨some "strict", .Constant (.bool true) kc cpos, kpos⟩] pos) (iZipS X.K ta) := by
  refine ⟨fun pins s σ H R I h => ?_⟩
  refine wpAny_Call_Name_kw (ld_blt I hg hm PyProof.Rows.boot_zip (callWith_tkw (thn (ha.run pos pins s σ H _ I h) fun us s1 ⟨vs, H1, I1, r1, q1⟩ => ?_) he hpl rfl rfl))
  refine kws_cons ?_
  refine thn ((pe_bl (X := X) (b := true) (j := kc) (pos := cpos)).run pins s1 σ H1 (fun v H2 => v = .bl true ∧ H2 = H1) I1 ⟨rfl, rfl⟩) fun kv s2 ⟨v, H2, I2, r2, e1, e2⟩ => ?_
  subst e1 e2
  obtain rfl : kv = Value.bool true := r2
  refine kws_nil ?_
  obtain ⟨x, y, xs, ys, ex, hqx, hqy, q⟩ := q1
  subst ex
  cases r1 with
  | cons r rr =>
    cases rr with
    | cons r' rr =>
      cases rr
      obtain ⟨o1, H1', B1, b1, i1, l1⟩ := src_begins I2 hqx r
      obtain ⟨o2, H2', B2, b2, i2, l2⟩ := src_begins I2 hqy r'
      show wpAny _ _ (call (.type "zip") [_, _] [(Str.ofString "strict", .bool true)]) _ _ _
      refine zipS_begins B1 B2 b1 b2 fun h' hz hTI hTO g1 g2 hsz hk => iter_zipS hz ?_
      have I3 : L2.Inv X pins σ H2 { s2 with heap := h' } := I2.kept (t' := s2.toks) hk
      have D : ApS x y (s2.heap.objs.size + 4) (s2.heap.objs.size + 2) (s2.heap.objs.size + 3) s2.heap.objs.size (s2.heap.objs.size + 1) := by
        have lt : ∀ (a n : Nat), a < n → a ≠ n + 4 ∧ a ≠ n + 3 ∧ a ≠ n ∧ a ≠ n + 1 := fun a n h => by omega
        have ne : ∀ n : Nat, n + 2 ≠ n + 4 ∧ n + 3 ≠ n + 4 ∧ n + 2 ≠ n + 3 ∧ n + 2 ≠ n ∧ n + 2 ≠ n + 1 ∧ n + 3 ≠ n ∧ n + 3 ≠ n + 1 ∧ n + 4 ≠ n ∧ n + 4 ≠ n + 1 ∧ n ≠ n + 1 := fun n => by omega
        obtain ⟨n1, n2, n3, n4, n5, n6, n7, n8, n9, n10⟩ := ne s2.heap.objs.size
        exact ⟨n1, n2, n3, n4, n5, n6, n7, n8, n9, n10, fun a e => lt a _ (l1 a e), fun a e => lt a _ (l2 a e)⟩
      refine ⟨s2.heap.objs.size + 4, [s2.heap.objs.size + 4, s2.heap.objs.size + 2, s2.heap.objs.size + 3, s2.heap.objs.size, s2.heap.objs.size + 1], _, _, H2, rfl, I3, turn_zipS D, ⟨hz, hTI, ⟨_, _, hTO⟩, i1 _ _ g1, i2 _ _ g2⟩, fun c hcm => ?_, q⟩
      have e' : c = s2.heap.objs.size + 4 ∨ c = s2.heap.objs.size + 2 ∨ c = s2.heap.objs.size + 3 ∨ c = s2.heap.objs.size ∨ c = s2.heap.objs.size + 1 := by simpa using hcm
      have hle : s2.heap.objs.size ≤ c := by
        rcases e' with z | z | z | z | z
        · rw [z]; exact Nat.le_add_right _ _
        · rw [z]; exact Nat.le_add_right _ _
        · rw [z]; exact Nat.le_add_right _ _
        · rw [z]; exact Nat.le_refl _
        · rw [z]; exact Nat.le_add_right _ _
      exact I2.fpOk hle (I2.hok.fresh hle)
theorem walk_zipS {K : PySem.W.Frag} {x y : V} {xs ys : List V} (hl : xs.length = ys.length) : Walk (ItzS K x y) xs.length (fun H => Src K H x xs ∧ Src K H y ys) (YPair (fun i => xs[i]?) (fun i => ys[i]?)) := by
  refine ⟨fun i _ hi q => ⟨xs, ys, q.1, q.2, hi, by omega⟩, fun _ q => ⟨xs, ys, q.1, q.2, rfl, hl.symm⟩, fun i H v H' _ q y => ?_⟩
  obtain ⟨T, u, w, h1, h2, h3, h4, h5⟩ := y
  exact ⟨T, u, w, h1, h2, h3, h4 xs q.1, h5 ys q.2⟩
/-! ## enumerate of a list or a text, from a count on -/
def ItnS (K : PySem.W.Frag) (x : V) (k : Int) : It :=
  ⟨fun i H => ∃ (xs : List V), Src K H x xs ∧ i < xs.length,
    fun i H v H' => ∃ T u, v = .ref T ∧ H T = none ∧ H' = upd H T (.tup [.int (k + (i : Nat)), u]) ∧ ∀ xs, Src K H x xs → xs[i]? = some u,
    fun i H => ∃ xs : List V, Src K H x xs ∧ xs.length = i⟩
theorem turn_enumS {P : Program} {w : World} {K : PySem.W.Frag} {elts : List Expr} {kk : Nat} {tpos : Pos} {x : V} {k : Int} {e it : Addr} (hne : e ≠ it) (hx : ∀ a, x = .ref a → a ≠ e ∧ a ≠ it) :
    Turn P w K (.Tuple elts kk tpos) (ItnS K x k) [e, it] e (fun i h => (∃ old, IsEnum h e it (k + ((i : Nat) : Int)) old) ∧ ItAt h x it i) where
  mem := by simp
  obj := fun i h st b hb => by
    obtain ⟨⟨old, he⟩, hi⟩ := st
    have e' : b = e ∨ b = it := by simpa using hb
    rcases e' with z | z
    · rw [z]; exact ⟨_, he, fun v q => nomatch q⟩
    · rw [z]; exact hi.obj
  keep := fun i h h' st k => by
    obtain ⟨⟨old, he⟩, hi⟩ := st
    exact ⟨⟨old, k e (by simp) _ he⟩, hi.at_ fun o q => k it (by simp) o q⟩
  item := by
    intro X hP hw hK hc i pins s σ H E I hf st hg
    subst hP hw hK
    obtain ⟨⟨old, he⟩, hi⟩ := st
    obtain ⟨xs, hq, hl⟩ := hg
    obtain ⟨fp, P1, St1, D1, t1, m1, f1, p1, o1⟩ := src_draws I hc hq hi fun a e => (hx a e).2
    have hel : e < s.heap.objs.size := Heap.lt_size he
    have hef : e ∉ fp := fun q => (f1 _ q).elim hne fun z => (hx _ z).1 rfl
    refine wpAny_pyNext_enum_itemC D1 he t1 hl hne hef fun u h' tk hu ho s1 hT hsz hk => ?_
    obtain ⟨u', eu, ru⟩ := p1 i u hu
    refine ⟨_, rfl, wpAny_letOwnedTupleGo_enum (s := { s with heap := h', toks := tk + 1 }) ho fun h'' he' sb => ?_⟩
    have hT2 : h''.get? s.heap.objs.size = some { cls := .type "tuple", data := .seq #[.int (k + ((i : Nat) : Int)) tk, u] } := (sb.2 _ (Nat.ne_of_gt hel)).trans hT
    have new : ObjOk X.prog X.w (upd H s.heap.objs.size (.tup [.int (k + ((i : Nat) : Int)), u'])) h'' s.heap.objs.size (.tup [.int (k + ((i : Nat) : Int)), u']) :=
      ⟨by show 2 ≤ sizeLine; decide, [.int (k + ((i : Nat) : Int)) tk, u], .cons ⟨_, rfl⟩ (.cons ru .nil), ⟨_, hT2, rfl, _, rfl⟩⟩
    have I1 : L2.Inv X pins σ (upd H s.heap.objs.size (.tup [.int (k + ((i : Nat) : Int)), u'])) { s with heap := h'', toks := tk + 1 } :=
      I.turnedNew (t' := tk + 1) (ch := [e, it]) (fun c o hb q => (sb.2 c (fun q' => hb (by simp [q']))).trans (hk c o (fun q' => hb (by simp [q'])) (fun q' => hb (by simp [q'])) q)) hf (Nat.le_refl _) new
    refine ⟨.ref s.heap.objs.size, _, I1, rfl, ⟨_, u', rfl, I.hok.fresh (Nat.le_refl _), rfl, fun l hl => by rw [src_inj I hl hq]; exact eu⟩, ⟨⟨u, ?_⟩, (o1 _ _ s1).at_ fun o q => (sb.2 it (Ne.symm hne)).trans q⟩, fun c hcm => ?_⟩
    · have e1 : k + ((i + 1 : Nat) : Int) = k + (i : Int) + 1 := by omega
      rw [e1]; exact he'
    · have hlt : c < s.heap.objs.size := by
        have e' : c = e ∨ c = it := by simpa using hcm
        rcases e' with q | q
        · rw [q]; exact hel
        · rw [q]; obtain ⟨_, e1, _⟩ := hi.obj; exact Heap.lt_size e1
      rw [upd_ne (Nat.ne_of_lt hlt)]
      exact (hf c hcm).1
  done := by
    intro X hP hw hK hc i pins s σ H E I hf st hg
    subst hP hw hK
    obtain ⟨⟨old, he⟩, hi⟩ := st
    obtain ⟨xs, hq, hl⟩ := hg
    obtain ⟨fp, P1, St1, D1, t1, m1, f1, p1, o1⟩ := src_draws I hc hq hi fun a e => (hx a e).2
    obtain ⟨f0, f1, f2, f3, f4, f5⟩ := hf it (by simp)
    exact wpAny_pyNext_enum_endD D1 he (by rw [hl]; exact t1) fun h' eb => ⟨rfl, I.turned (t' := s.toks) (fun b o hb q => eb b o hb q) f0 f1 f3 f4 f5⟩
  self := fun A i s Q E st h => let ⟨⟨_, he⟩, _⟩ := st; wpAny_pyIter_enum he h
def iEnumS (K : PySem.W.Frag) (k : Int) (ta : TA) : TI := fun σ H R => ta σ H fun vs H1 => ∃ x xs, vs = [x] ∧ Src K H1 x xs ∧ R (ItnS K x k) H1
/-- enumerate of a text -/
def iEnumT (K : PySem.W.Frag) (ta : TA) : TI := fun σ H R => ta σ H fun vs H1 => ∃ z, vs = [.str z] ∧ R (ItnS K (.str z) 0) H1
theorem pi_enumT {X : Cx} {e : Expr} {ta : TA} {p pos tpos : Pos} {elts : List Expr} {kk : Nat} (hg : Gl X "enumerate") (hm : X.mg "enumerate" = none) (ha : PA X [e] ta) (hs : starEach [e] X.env = [(false, eval e X.env)] := by rfl) :
    PI X (.Tuple elts kk tpos) (.Call (.Name "enumerate" p) [e] [] pos) (iEnumT X.K ta) := by
  refine ⟨fun pins s σ H R I h => ?_⟩
  refine Call_ (ld_blt I hg hm boot_enumerate (PyProof.Rows.callWith_type1 (thn (ha.run pos pins s σ H _ I h) fun us s1 ⟨vs, H1, I1, r1, q1⟩ => ?_) hs rfl))
  obtain ⟨z, ex, q⟩ := q1
  subst ex
  cases r1 with
  | cons r rr =>
    cases rr
    obtain ⟨t, rfl⟩ := r
    refine call_enumerate_str fun h' he hit hsz hk => wpAny_pyIter_enum he ?_
    have I2 : L2.Inv X pins σ H1 { s1 with heap := h' } := I1.kept (t' := s1.toks) hk
    refine ⟨s1.heap.objs.size + 1, [s1.heap.objs.size + 1, s1.heap.objs.size], _, _, H1, rfl, I2, turn_enumS (x := .str z) (k := 0) (e := s1.heap.objs.size + 1) (it := s1.heap.objs.size) (Nat.succ_ne_self _) (fun a q => nomatch q), ⟨⟨.none, he⟩, ⟨t, hit⟩⟩, fun b hb => ?_, q⟩
    have e' : b = s1.heap.objs.size + 1 ∨ b = s1.heap.objs.size := by simpa using hb
    have hle : s1.heap.objs.size ≤ b := by
      rcases e' with z | z
      · rw [z]; exact Nat.le_add_right _ _
      · rw [z]; exact Nat.le_refl _
    exact I1.fpOk hle (I1.hok.fresh hle)
theorem pi_enumK {X : Cx} {e : Expr} {ta : TA} {p pos tpos kpos cpos : Pos} {kc : Nat} {k : Int} {elts : List Expr} {kk : Nat} (hg : Gl X "enumerate") (hm : X.mg "enumerate" = none) (ha : PA X [e] ta) (hk0 : -(2 ^ 63) ≤ k) (hk1 : k < 2 ^ 63)
    (he : backTo pos (starEach [e] X.env) = (false, eval e X.env) :: backTo pos (starEach [] X.env) := by rfl) (hpl : (backTo pos (starEach [e] X.env)).any (·.1) = false := by rfl) :
    PI X (.Tuple elts kk tpos) (.Call (.Name "enumerate" p) [e] [⟨some "start", .Constant (.int k) kc cpos, kpos⟩] pos) (iEnumS X.K k ta) := by
  refine ⟨fun pins s σ H R I h => ?_⟩
  refine wpAny_Call_Name_kw (ld_blt I hg hm boot_enumerate (callWith_tkw (thn (ha.run pos pins s σ H _ I h) fun us s1 ⟨vs, H1, I1, r1, q1⟩ => ?_) he hpl rfl rfl))
  refine kws_cons ?_
  refine thn ((pe_int (X := X) (i := k) (j := kc) (pos := cpos)).run pins s1 σ H1 (fun v H2 => v = .int k ∧ H2 = H1) I1 ⟨rfl, rfl⟩) fun kv s2 ⟨v, H2, I2, r2, e1, e2⟩ => ?_
  subst e1 e2
  obtain ⟨kt, rfl⟩ := r2
  refine kws_nil ?_
  obtain ⟨x, xs, ex, hqx, q⟩ := q1
  subst ex
  cases r1 with
  | cons r rr =>
    cases rr
    obtain ⟨o1, H1', B1, b1, i1, l1⟩ := src_begins I2 hqx r
    show wpAny _ _ (call (.type "enumerate") [_] [(Str.ofString "start", .int k kt)]) _ _ _
    refine enum_begins_start B1 b1 hk0 hk1 fun h' he g1 hsz hk => wpAny_pyIter_enum he ?_
    have I3 : L2.Inv X pins σ H2 { s2 with heap := h' } := I2.kept (t' := s2.toks) hk
    have lt : ∀ (a n : Nat), a < n → a ≠ n + 1 ∧ a ≠ n := fun a n h => by omega
    have ez : k + ((0 : Nat) : Int) = k := by omega
    refine ⟨s2.heap.objs.size + 1, [s2.heap.objs.size + 1, s2.heap.objs.size], _, _, H2, rfl, I3, turn_enumS (e := s2.heap.objs.size + 1) (it := s2.heap.objs.size) (Nat.succ_ne_self _) (fun a e => lt a _ (l1 a e)), ⟨⟨.none, by rw [ez]; exact he⟩, i1 _ _ g1⟩, fun b hb => ?_, q⟩
    have e' : b = s2.heap.objs.size + 1 ∨ b = s2.heap.objs.size := by simpa using hb
    have hle : s2.heap.objs.size ≤ b := by
      rcases e' with z | z
      · rw [z]; exact Nat.le_add_right _ _
      · rw [z]; exact Nat.le_refl _
    exact I2.fpOk hle (I2.hok.fresh hle)
theorem walk_enumS {K : PySem.W.Frag} {x : V} {k : Int} {xs : List V} : Walk (ItnS K x k) xs.length (fun H => Src K H x xs) (YPair (fun i => some (.int (k + (i : Nat)))) (fun i => xs[i]?)) := by
  refine ⟨fun i _ hi q => ⟨xs, q, hi⟩, fun _ q => ⟨xs, q, rfl⟩, fun i H v H' _ q y => ?_⟩
  obtain ⟨T, u, h1, h2, h3, h4⟩ := y
  exact ⟨T, .int (k + (i : Nat)), u, h1, h2, h3, rfl, h4 xs q⟩
/-! ## max(list, default=0) -/
def rMaxD (K : PySem.W.Frag) : List V → List V → Hp → VK → Prop := fun vs zs H Q => ∃ (a : Addr) (ns : List Int) (d : Int), vs = [V.ref a] ∧ zs = [.int d] ∧ SqL K H a (ns.map V.int) ∧ (ns = [] → Q (.int d) H) ∧ ∀ m, m ∈ ns → (∀ y, y ∈ ns → y ≤ m) → Q (.int m) H
end K70
set_option maxHeartbeats 8000000
/-! the set of a text's signs -/
namespace K70
open PySem PySem.Froz
section
variable {prog : Program} {w : World} {A : Around} {E : Value → Shared → Prop} {s : Shared}
theorem sub_str_set : isSubtype (.type "str") (.type "set") = pure false := by rw [isSubtype_type]; kernel_rfl
theorem sub_str_frozenset : isSubtype (.type "str") (.type "frozenset") = pure false := by rw [isSubtype_type]; kernel_rfl
theorem fresh_fits {led : Bool} : (SetTable.fresh 0 0 led).fits 0 = true := rfl
theorem run_ok {P : Program} {w : World} : ∀ (cs : List Nat) (tk : Tok) (D : SD) (l : List Str), TxOk P w D l → TxOk P w (runD w cs tk D) (cs.reverse.map sing ++ l)
  | [], tk, D, l, F => F
  | c :: r, tk, D, l, F => by
    have h := run_ok r (tk + 2) _ _ (add_ok (k := sing c) tk F)
    rw [List.reverse_cons, List.map_append, List.append_assoc]
    exact h
theorem call_set_text {x : Str} {t : Tok} {Q : Value → Shared → Prop} (hh : A.handled = none) (hx : x.cps.all (· < 128) = true) (hn : x.cps.toList.Nodup) (hb : x.cps.size < scanBound)
    (h : ∀ (h' : Heap) (tk : Nat) (D : SD), h'.get? s.heap.objs.size = some (sObj "set" D) → D.1.size = x.cps.size → D.2.2.fits D.1.size = true →
      (∀ b o, s.heap.get? b = some o → h'.get? b = some o) → Q (.ref s.heap.objs.size) { s with heap := h', toks := tk }) :
    wpAny (model prog w) A (call (.type "set") [.str x t]) Q E s := by
  obtain ⟨c, tl, hmro⟩ := F.called_set.mro
  have hmade := F.called_set.made
  have hsub := F.called_set.sub
  refine wpAny_call (codeAny_of_tree ?_)
  show wpAny _ _ (callAny (.type "set") _) _ _ _
  refine wpAny_pure ⟨Code.quiet_builtin _ (by decide +kernel), codeAny_builtin F.entry_type_call ?_⟩
  rw [Around.under_plain (weight_type_call_type "set" [.str x t] []) rfl]
  have h1 := F.called_set.notType
  have h2 := F.called_set.canCreate
  have hct := F.typeCall_set_1 (.str x t)
  repeat (any_goals (first | assumption | wp_step))
  refine codeAny_mono (code_set_new_1 (.str x t) (E := E) (Q₁ := fun obj s1 => ∃ led : Bool, obj = .ref s.heap.objs.size ∧ s1 = { s with heap := s.heap.push { cls := .type "set", dict := none, data := .set #[] 0 (.fresh 0 0 led) } }) fun led => ⟨led, rfl, rfl⟩) fun r s1 hr => ?_
  cases r with
  | error e => exact hr
  | ok fl =>
    cases fl with
    | ret obj =>
      obtain ⟨led, rfl, rfl⟩ := hr
      have hS : (s.heap.push { cls := .type "set", dict := none, data := .set #[] 0 (.fresh 0 0 led) }).get? s.heap.objs.size = some { cls := .type "set", dict := none, data := .set #[] 0 (.fresh 0 0 led) } := Heap.get?_push_size _ rfl
      have hT : Shared.TypeIs { s with heap := s.heap.push { cls := .type "set", dict := none, data := .set #[] 0 (.fresh 0 0 led) } } (.ref s.heap.objs.size) "set" := ⟨_, hS, rfl⟩
      have hli := F.called_set.init.lookup
      have hbi := F.called_set.init.bind (.ref s.heap.objs.size)
      repeat (any_goals (first | assumption | wp_step))
      refine codeAny_mono (codeAny_call_builtin (R := wants (fun r s2 => r = .none ∧ ∃ h' tk D, s2 = { s with heap := h', toks := tk } ∧
          h'.get? s.heap.objs.size = some (sObj "set" D) ∧ D.1.size = x.cps.size ∧ D.2.2.fits D.1.size = true ∧ (∀ b o, s.heap.get? b = some o → h'.get? b = some o)) E) F.called_set.init.plain F.entry_set_init (check_set_init_1 hT ?_)) fun r2 s2 hr2 => ?_
      · have hsls := sub_str_set
        have hslf := sub_str_frozenset
        unfold Builtin.«set.__init__» noKeywords Builtin.Frozenset.updateFrom
        generalize hPI : pyIter = PI
        wp_walk
        subst hPI
        refine wpAny_pyIter_strU ?_
        have et : strIterType x = "str_ascii_iterator" := by unfold strIterType; rw [if_pos hx]
        rw [et]
        refine wpAny_bind (wpAny_runValue ?_)
        have hsz1 : (s.heap.push { cls := .type "set", dict := none, data := .set #[] 0 (.fresh 0 0 led) }).objs.size = s.heap.objs.size + 1 := Heap.size_push ..
        have hneI : s.heap.objs.size ≠ (s.heap.push { cls := .type "set", dict := none, data := .set #[] 0 (.fresh 0 0 led) }).objs.size := by
          rw [hsz1]
          exact Nat.ne_of_lt (Nat.lt_succ_self _)
        refine code_update (u := t) hneI (by simp [hh]) x.cps.toList 0 (#[], 0, .fresh 0 0 led) [] _ rfl (Heap.get?_push_of_some _ hS) (Heap.get?_push_size _ rfl) (TxOk.nil fresh_fits) (fun c _ q => nomatch q) hn ?_ ?_
        · simpa using hb
        · have F := run_ok (P := prog) (w := w) x.cps.toList s.toks (#[], 0, .fresh 0 0 led) [] (TxOk.nil fresh_fits)
          refine wpAny_pure ?_
          show wpAny _ _ (ret Value.none) _ _ _
          refine wpAny_pure ⟨rfl, _, _, runD w x.cps.toList s.toks (#[], 0, .fresh 0 0 led), rfl, ?_, ?_, F.fit, fun b o e => ?_⟩
          · refine Heap.get?_push_of_some _ (Heap.get?_push_of_some _ ?_)
            unfold two
            exact PySem.Heap.get?_update_of_ne _ (Ne.symm hneI) (get_upd _ (Heap.get?_push_of_some _ hS) rfl)
          · have := F.sz
            simp at this
            simpa using this
          · refine Heap.get?_push_of_some _ (Heap.get?_push_of_some _ ?_)
            have hlt : b < s.heap.objs.size := Heap.lt_size e
            unfold two
            refine PySem.Heap.get?_update_of_ne _ ?_ (PySem.Heap.get?_update_of_ne _ (Ne.symm (Nat.ne_of_lt hlt)) (Heap.get?_push_of_some _ (Heap.get?_push_of_some _ e)))
            rw [hsz1]
            exact Ne.symm (Nat.ne_of_lt (Nat.lt_succ_of_lt hlt))
      · cases r2 with
        | error e => exact hr2
        | ok fl2 =>
          cases fl2 with
          | ret r =>
            obtain ⟨rfl, h', tk, D, rfl, hS', hz', hf', hk'⟩ := hr2
            repeat (any_goals (first | assumption | wp_step))
            exact h _ _ D hS' hz' hf' hk'
          | _ => exact hr2.elim
    | _ => exact hr.elim
end
end K70
set_option maxHeartbeats 4000000
namespace K70
open PySem PySem.Spec PyProof.Rows L2
/-! ## max(list, default=0) -/
theorem maxOf_ge : ∀ (ys : List Int) (x : Int), x ≤ PySem.W.maxOf x ys ∧ (∀ y ∈ ys, y ≤ PySem.W.maxOf x ys) ∧ PySem.W.maxOf x ys ∈ x :: ys
  | [], x => ⟨Int.le_refl _, fun y h => (nomatch h), List.mem_cons_self⟩
  | y :: ys, x => by
    have e : PySem.W.maxOf x (y :: ys) = PySem.W.maxOf (if decide (x < y) = true then y else x) ys := rfl
    rw [e]
    by_cases h : x < y
    · rw [decide_eq_true h, if_pos rfl]
      obtain ⟨h1, h2, h3⟩ := maxOf_ge ys y
      refine ⟨by omega, fun z hz => ?_, List.mem_cons_of_mem _ h3⟩
      rcases List.mem_cons.mp hz with q | q
      · rw [q]; exact h1
      · exact h2 z q
    · rw [decide_eq_false h, if_neg Bool.false_ne_true]
      obtain ⟨h1, h2, h3⟩ := maxOf_ge ys x
      refine ⟨h1, fun z hz => ?_, ?_⟩
      · rcases List.mem_cons.mp hz with q | q
        · rw [q]; omega
        · exact h2 z q
      · rcases List.mem_cons.mp h3 with q | q
        · rw [q]; exact List.mem_cons_self
        · exact List.mem_cons_of_mem _ (List.mem_cons_of_mem _ q)
theorem holds_int_inv {h : Heap} {n m : Int} {k : Tok} (x : PySem.W.Holds h (.int n k) m) : n = m := by
  obtain ⟨as, hr⟩ := x
  have hr2 : PySem.Reads h (.int n k) (.int m) as := hr
  cases hr2
  rfl
theorem cr_maxD {X : Cx} (hc : X.calm = true) (hu : X.A.units + 1 < cLine) : CallRK X (.builtin "max") ["default"] (rMaxD X.K) := by
  intro pins s σ H xs zs us ws Q I r rz h
  obtain ⟨a, ns, d, rfl, rfl, hs, h0, q⟩ := h
  obtain ⟨its, rv, hl, _⟩ := I.list hs
  rw [Vals.ref1 r]
  cases rz with
  | cons rd rr =>
    cases rr
    obtain ⟨t, rfl⟩ := rd
    show wpAny _ _ (call (.builtin "max") [.ref a] [(Str.ofString "default", .int d t)]) _ _ _
    refine PySem.W.max_list_datum_default (α := Int) (xs := ns) (I.ok.hd hc) hl.isList (by simpa using PySem.W.HoldAll.of_ints rv.ints) (by show X.A.units + 1 + 0 < cLine; omega) (fun e h' tk hk => ⟨.int d, H, I.kept (t' := tk) hk, ⟨t, rfl⟩, h0 e⟩) fun y ys i v h' tk e hv hh hk => ?_
    have hm := maxOf_ge ys y
    have hi : its[i]? = some v := by simpa using hv
    obtain ⟨n, hn⟩ : ∃ n, v = .int (PySem.W.maxOf y ys) n := by
      have hlen : i < ns.length := by
        have := rv.length
        rw [List.length_map] at this
        have := (List.getElem?_eq_some_iff.mp hi).1
        omega
      obtain ⟨u, e1, r1⟩ := rv.get (i := i) (x := .int ns[i]) (by rw [List.getElem?_map, List.getElem?_eq_getElem hlen]; rfl)
      rw [hi] at e1
      cases e1
      obtain ⟨k, rfl⟩ := r1
      rw [← holds_int_inv hh]
      exact ⟨k, rfl⟩
    subst hn
    refine ⟨.int (PySem.W.maxOf y ys), H, I.kept (t' := tk) hk, ⟨n, rfl⟩, q _ ?_ ?_⟩
    · rw [e]; exact hm.2.2
    · rw [e]
      intro z hz
      rcases List.mem_cons.mp hz with w | w
      · rw [w]; exact hm.1
      · exact hm.2.1 z w
/-! ## list of a text -/
theorem call_list_text {X : Cx} (hc : X.calm = true) : CallR X (.type "list") (fun xs H Q => ∃ z : Str, xs = [V.str z] ∧ z.length ≤ sizeLine ∧ ∀ l, H l = none → Q (.ref l) (upd H l (.lst (z.cps.toList.map sgn)))) := by
  intro pins s σ H xs us Q I r h
  obtain ⟨z, rfl, hz, q⟩ := h
  obtain ⟨u, rfl, rx⟩ := vals1 r
  obtain ⟨t, rfl⟩ := rx
  refine call_list_str (I.ok.hd hc) z t (hn := hz) fun h' tk acc c hk hS hacc => ?_
  have rv : Vals (z.cps.toList.map sgn) acc.toList := by
    have key : ∀ (ls : List Nat) (vs : List Value), vs.length = ls.length → (∀ (j : Nat) (v : Value), vs[j]? = some v → ∃ (c : Nat) (u : Tok), ls[j]? = some c ∧ v = Value.str ⟨#[c]⟩ u) → Vals (ls.map sgn) vs := by
      intro ls
      induction ls with
      | nil => intro vs hl _; rw [List.eq_nil_of_length_eq_zero hl]; exact .nil
      | cons c ls ih =>
        intro vs hl hv
        cases vs with
        | nil => simp at hl
        | cons v vs =>
          obtain ⟨d, u, e1, e2⟩ := hv 0 v rfl
          have e3 : c = d := Option.some.inj e1
          subst e3
          exact .cons ⟨u, e2⟩ (ih vs (by simpa using hl) fun j w hw => hv (j + 1) w hw)
    refine key _ _ (by simp [hacc.1]) fun j v hv => ?_
    obtain ⟨c, u, e1, e2⟩ := hacc.2 j v (by simpa using hv)
    exact ⟨c, u, by simpa using e1, e2⟩
  exact ⟨.ref s.heap.objs.size, _, I.laid (t' := tk) hk (Nat.le_refl _) (show ObjOk X.prog X.w _ h' _ (.lst (z.cps.toList.map sgn)) from ⟨by rw [List.length_map]; exact hz, acc.toList, c, rv, by simpa using hS⟩), rfl, q _ (I.hok.fresh (Nat.le_refl _))⟩
/-! ## len of the set of a text's signs, all unlike -/
def tLenSetT (ta : TE) : TE := fun σ H Q => ta σ H fun x H1 => ∃ z : Str, x = .str z ∧ z.cps.all (· < 128) = true ∧ z.cps.toList.Nodup ∧ z.length ≤ 1000 ∧ Q (.int (z.length : Nat)) H1
theorem pe_lenSetT {X : Cx} {a : Expr} {ta : TE} {p p2 q pos : Pos} (hg : Gl X "len") (hm : X.mg "len" = none) (hg2 : Gl X "set") (hm2 : X.mg "set" = none) (ha : PE X a ta) (hc : X.calm = true := by rfl)
    (na : starEach [a] X.env = (false, eval a X.env) :: starEach [] X.env := by rfl) : PE X (.Call (.Name "len" p) [.Call (.Name "set" p2) [a] [] q] [] pos) (tLenSetT ta) := by
  refine ⟨fun pins s σ H Q I h => ?_⟩
  refine Call_ (ld_blt I hg hm boot_len ?_)
  refine PyProof.Rows.callWith_builtin1 (PyProof.Rows.args_cons ?_ rfl) rfl rfl
  refine Call_ (ld_blt I hg2 hm2 boot_set ?_)
  refine PyProof.Rows.callWith_type1 (PyProof.Rows.args_cons (thn (ha.run pins s σ H _ I h) fun v s1 ⟨x, H1, I1, r1, q1⟩ => PyProof.Rows.args_nil ?_) na) na rfl
  obtain ⟨z, rfl, ha8, hnd, hl, q1⟩ := q1
  obtain ⟨t, rfl⟩ := r1
  have hl' : z.cps.size ≤ 1000 := hl
  refine call_set_text (I1.ok.hd hc) ha8 hnd (by unfold scanBound; omega) fun h' tk D hS hz hf hk => ?_
  refine PyProof.Rows.args_nil ?_
  have I2 : L2.Inv X pins σ H1 { s1 with heap := h', toks := tk } := I1.kept fun b o e => hk b o e
  refine call_len_set (t := D.2.2) hS ⟨rfl, rfl, rfl⟩ rfl hf (by rw [hz]; omega) ⟨.int (z.length : Nat), H1, I2.tok _, ⟨_, by rw [hz]; rfl⟩, q1⟩
/-! ## {k: v} with a tuple for its key -/
def tDispT (tk tv : TE) : TE := fun σ H Q => ∀ p, H p = none → tk σ (upd H p (.dT [])) fun x H1 => tv σ H1 fun y H2 => H2 p = some (.dT []) ∧ ∃ (b : Addr) (ks : List Key), x = .ref b ∧ H2 b = some (.tup (ks.map kV)) ∧ Q (.ref p) (upd H2 p (.dT [(ks, y)]))
theorem pe_dispT {X : Cx} {pos : Pos} {k v : Expr} {tk tv : TE} (hu : X.A.units < cLine) (hk : PE X k tk) (hv : PE X v tv) : PE X (.Dict [some k] [v] pos) (tDispT tk tv) := by
  refine ⟨fun pins s σ H Q I q => ?_⟩
  have hn := I.hok.fresh (Nat.le_refl s.heap.objs.size)
  have I1 := I.laid (a := s.heap.objs.size) (o := .dT []) (h' := s.heap.push { cls := .type "dict", data := .dict #[] }) (t' := s.toks) (fun _ _ q => Heap.get?_push_of_some _ q) (Nat.le_refl _) (dt_empty s.heap I.big)
  show wpAny _ _ (eval (.Dict [some k] [v] pos) X.env) _ _ _
  rw [arm_eval_Dict, show (evalEachOpt [some k] X.env).zip ((evalEach [v] X.env).map fun v => do let x ← v; standAt pos; pure x) = (pairTrees [some k] [v] X.env pos).map fun p => (some p.1, p.2) from rfl,
    dictDisplay_pairs (pairTrees [some k] [v] X.env pos) (fun e => nomatch e) (by show 1 < 17; decide)]
  refine wpAny_bind (wpAny_standAt (wpAny_bind (wpAny_subDictH (knd := tupleKind (mixKind X.prog X.w)) (Q := fun d s' => wpAny (model X.prog X.w) X.A (pure (Value.ref d)) _ _ s') hu (by show 1 ≤ 15; decide) ?_)))
  refine pairTrees_cons_walk (thn (hk.run pins _ σ _ _ I1 (q _ hn)) fun u s1 ⟨x, H1, I1', rx, q1⟩ => thn (hv.run pins s1 σ H1 _ I1' q1) fun w2 s2 ⟨y, H2, I2, ry, e, b, ks, ex, hb, q2⟩ => pairTrees_nil_walk ?_)
  subst ex
  obtain rfl : u = Value.ref b := rx
  obtain ⟨z, hd, xs, rel, dd⟩ := dt_of I2.hok e
  cases rel
  refine ⟨[(ks, b, w2)], ⟨rfl, rfl, key_of I2.hok hb, trivial⟩, dd, fun h' tk dd' hs => wpAny_pure ⟨.ref s.heap.objs.size, _, ?_, rfl, q2⟩⟩
  have e3 : storedAllH ([] : List (List Key × Addr × Value)) [(ks, b, w2)] = [(ks, b, w2)] := rfl
  rw [e3] at dd'
  obtain ⟨o, es, ep, h1, h2, h3, h4, h5, h6⟩ := dd'
  refine d_write I2 (by rw [e]; exact True.intro) hs ⟨o, h1⟩ ⟨by show 1 ≤ sizeLine; decide, hd, [(ks, b, w2)], .cons ⟨rfl, ?_, ry⟩ .nil, o, es, ep, h1, h2, h3, h4, h6⟩
  rw [upd_ne (ne_of hb e (fun z => nomatch z))]
  exact hb
/-! ## a dict whose keys are marks: (text, ((text, number), ..)), its values numbers -/
abbrev SS (t : List Nat) : Str := ⟨t.toArray⟩
abbrev MK := List Nat × List (List Nat × Nat)
def mkKey (m : MK) : NestedKey := .tup [.text (SS m.1), .tup (m.2.map fun w => .tup [.text (SS w.1), .num (w.2 : Int)])]
def MarkAt (H : Hp) (a : Addr) (m : MK) : Prop := ∃ (p : Addr) (ts : List Addr), H a = some (.tup [.str (SS m.1), .ref p]) ∧ H p = some (.tup (ts.map V.ref)) ∧ ts.length = m.2.length ∧
  ∀ (i : Nat) (t : Addr) (w : List Nat × Nat), ts[i]? = some t → m.2[i]? = some w → H t = some (.tup [.str (SS w.1), .int (w.2 : Int)])
theorem ss_inj {a b : List Nat} (h : SS a = SS b) : a = b := by
  have := congrArg (fun z : Str => z.cps.toList) h
  simpa using this
theorem mkKey_inj {m n : MK} (h : mkKey m = mkKey n) : m = n := by
  obtain ⟨a, l⟩ := m
  obtain ⟨b, r⟩ := n
  unfold mkKey at h
  injection h with h
  injection h with h1 h
  injection h1 with h1
  injection h with h2 _
  injection h2 with h2
  have e1 : a = b := ss_inj h1
  have e2 : l = r := by
    have key : ∀ (l r : List (List Nat × Nat)), l.map (fun w => NestedKey.tup [.text (SS w.1), .num (w.2 : Int)]) = r.map (fun w => NestedKey.tup [.text (SS w.1), .num (w.2 : Int)]) → l = r := by
      intro l
      induction l with
      | nil => intro r h; cases r with
        | nil => rfl
        | cons _ _ => cases h
      | cons x l ih => intro r h; cases r with
        | nil => cases h
        | cons y r =>
          rw [List.map_cons, List.map_cons] at h
          injection h with h1 h2
          injection h1 with h1
          injection h1 with h3 h4
          injection h3 with h3
          injection h4 with h4 _
          injection h4 with h4
          have e3 : x.1 = y.1 := ss_inj h3
          have e4 : x.2 = y.2 := by omega
          rw [ih r h2, show x = y from Prod.ext e3 e4]
    exact key l r h2
  rw [e1, e2]
section
variable {P : Program} {w : World} {H H' : Hp} {h : Heap}
theorem MarkAt.keeps {a : Addr} {m : MK} (x : MarkAt H a m) (ht : ∀ b ys, H b = some (.tup ys) → H' b = some (.tup ys)) : MarkAt H' a m := by
  obtain ⟨p, ts, h1, h2, h3, h4⟩ := x
  exact ⟨p, ts, ht _ _ h1, ht _ _ h2, h3, fun i t w e1 e2 => ht _ _ (h4 i t w e1 e2)⟩
theorem MarkAt.key {a : Addr} {m : MK} (x : MarkAt H a m) (ok : HOk P w H h) : (nestedKind P w).is h (mkKey m) a := by
  obtain ⟨p, ts, h1, h2, h3, h4⟩ := x
  have pair : ∀ (a : Addr) (x y : V), H a = some (.tup [x, y]) → ∃ o u v n, h.get? a = some o ∧ o.cls = .type "tuple" ∧ o.data = .seq #[u, v] n ∧ RelV x u ∧ RelV y v := fun a x y e => by
    obtain ⟨_, its, r, o, g1, g2, n, g3⟩ := (show ObjOk P w H h a (.tup [x, y]) from ok a _ e)
    cases r with
    | cons r1 r2 =>
      cases r2 with
      | cons r2 r3 =>
        cases r3
        exact ⟨o, _, _, n, g1, g2, g3, r1, r2⟩
  obtain ⟨o, u, v, n, g1, g2, g3, ⟨t, rfl⟩, r2⟩ := pair a _ _ h1
  obtain rfl : v = Value.ref p := r2
  obtain ⟨_, its, r, o2, k1, k2, n2, k3⟩ := (show ObjOk P w H h p (.tup (ts.map V.ref)) from ok p _ h2)
  have all : ∀ (ts : List Addr) (ws : List (List Nat × Nat)) (its : List Value), Vals (ts.map V.ref) its → ts.length = ws.length → (∀ (i : Nat) (t : Addr) (w : List Nat × Nat), ts[i]? = some t → ws[i]? = some w → H t = some (.tup [.str (SS w.1), .int (w.2 : Int)])) →
      NestedAll h (ws.map fun w => NestedKey.tup [.text (SS w.1), .num (w.2 : Int)]) its := by
    intro ts
    induction ts with
    | nil => intro ws its r hl _; cases r; cases ws with
      | nil => exact .nil
      | cons _ _ => cases hl
    | cons t ts ih => intro ws its r hl hw; cases ws with
      | nil => cases hl
      | cons w ws =>
        rw [List.map_cons] at r
        cases r with
        | cons r1 r2 =>
          cases r1
          obtain ⟨o, u, v, n, g1, g2, g3, ⟨t1, rfl⟩, t2, rfl⟩ := pair t _ _ (hw 0 t w rfl rfl)
          refine .cons (.tup g1 g2 g3 (.cons (.text _ _) (.cons (.int _ _) .nil))) (ih ws _ r2 (by simpa using hl) fun i t w e1 e2 => hw (i + 1) t w e1 e2)
  refine ⟨.tup g1 g2 g3 (.cons (.text _ _) (.cons (.tup k1 k2 k3 (by simpa using all ts m.2 its r h3 h4)) .nil)), ?_⟩
  have dep : ∀ (ws : List (List Nat × Nat)), NestedKey.depthAll (ws.map fun w => NestedKey.tup [.text (SS w.1), .num (w.2 : Int)]) ≤ 1 := by
    intro ws
    induction ws with
    | nil => exact Nat.zero_le _
    | cons w ws ih =>
      show max 1 _ ≤ 1
      omega
  have d1 := dep m.2
  show max 0 (max (NestedKey.depthAll _ + 1) 0) + 1 ≤ 8
  omega
/-- what stands at the dict's address -/
def NDo (P : Program) (w : World) (d : Addr) (xs : List (NestedKey × Addr × Value)) : HO := .ext fun h => (d == sysModules) = false ∧ ∃ o es ep, h.get? d = some o ∧ o.ExactDict ∧ o.data = .dict es ep ∧ es.toList = xs.map (entryOfKey (nestedKind P w))
theorem nd_new {d : Addr} {xs : List (NestedKey × Addr × Value)} (hd : (d == sysModules) = false) (x : ∃ o es ep, h.get? d = some o ∧ o.ExactDict ∧ o.data = .dict es ep ∧ es.toList = xs.map (entryOfKey (nestedKind P w))) : ObjOk P w H h d (NDo P w d xs) := by
  obtain ⟨o, es, ep, e, r⟩ := x
  refine ⟨⟨hd, o, es, ep, e, r⟩, ⟨o, e⟩, fun h1 h2 p k => ?_⟩
  obtain ⟨_, o, es, ep, e, r⟩ := p
  exact ⟨hd, o, es, ep, k o e, r⟩
/-- the marks ms, each with its number -/
def NDict (P : Program) (w : World) (H : Hp) (d : Addr) (ms : List MK) : Prop := ∃ xs : List (NestedKey × Addr × Value), H d = some (NDo P w d xs) ∧ xs.length = ms.length ∧ ms.Nodup ∧
  ∀ (i : Nat) (x : NestedKey × Addr × Value) (m : MK), xs[i]? = some x → ms[i]? = some m → x.1 = mkKey m ∧ MarkAt H x.2.1 m ∧ RelV (.int (i : Nat)) x.2.2
theorem nd_of {d : Addr} {xs : List (NestedKey × Addr × Value)} {ms : List MK} (ok : HOk P w H h) (e : H d = some (NDo P w d xs)) (hl : xs.length = ms.length) (hn : ms.Nodup)
    (hx : ∀ (i : Nat) (x : NestedKey × Addr × Value) (m : MK), xs[i]? = some x → ms[i]? = some m → x.1 = mkKey m ∧ MarkAt H x.2.1 m ∧ RelV (.int (i : Nat)) x.2.2) : (d == sysModules) = false ∧ h.DictOfH (nestedKind P w) d xs := by
  obtain ⟨⟨hd, o, es, ep, e1, e2, e3, e4⟩, _⟩ := (show ObjOk P w H h d (NDo P w d xs) from ok d _ e)
  refine ⟨hd, o, es, ep, e1, e2, e3, e4, fun x hm => ?_, ?_⟩
  · obtain ⟨i, hi, rfl⟩ := List.mem_iff_getElem.mp hm
    obtain ⟨a, b, _⟩ := hx i _ ms[i] (List.getElem?_eq_getElem hi) (List.getElem?_eq_getElem (by omega))
    rw [a]
    exact b.key ok
  · have e5 : xs.map (·.1) = ms.map mkKey := by
      refine List.ext_getElem? fun i => ?_
      rw [List.getElem?_map, List.getElem?_map]
      by_cases hi : i < xs.length
      · rw [List.getElem?_eq_getElem hi, List.getElem?_eq_getElem (by omega : i < ms.length)]
        exact congrArg some (hx i _ _ (List.getElem?_eq_getElem hi) (List.getElem?_eq_getElem (by omega))).1
      · rw [List.getElem?_eq_none (by omega : xs.length ≤ i), List.getElem?_eq_none (by omega : ms.length ≤ i)]
        rfl
    rw [e5]
    unfold List.Nodup at hn ⊢
    rw [List.pairwise_map]
    exact hn.imp fun q e => q (mkKey_inj e)
theorem nd_look {xs : List (NestedKey × Addr × Value)} {ms : List MK} (hl : xs.length = ms.length) (hn : ms.Nodup)
    (hx : ∀ (i : Nat) (x : NestedKey × Addr × Value) (m : MK), xs[i]? = some x → ms[i]? = some m → x.1 = mkKey m ∧ MarkAt H x.2.1 m ∧ RelV (.int (i : Nat)) x.2.2) (m : MK) :
    (m ∉ ms → atKey xs (mkKey m) = none) ∧ ∀ p, atKey xs (mkKey m) = some p → ∃ i : Nat, ms[i]? = some m ∧ RelV (.int (i : Nat)) p.2 := by
  constructor
  · intro q
    unfold atKey
    rw [show xs.find? (fun x => decide (x.1 = mkKey m)) = none from List.find?_eq_none.mpr fun x hm => by
      obtain ⟨i, hi, rfl⟩ := List.mem_iff_getElem.mp hm
      obtain ⟨a, _, _⟩ := hx i _ ms[i] (List.getElem?_eq_getElem hi) (List.getElem?_eq_getElem (by omega))
      intro z
      have z' := of_decide_eq_true z
      rw [a] at z'
      exact q ((mkKey_inj z') ▸ List.getElem_mem (by omega))]
    rfl
  · intro p e
    unfold atKey at e
    obtain ⟨x, e1, e2⟩ := Option.map_eq_some_iff.mp e
    have hm := List.mem_of_find?_eq_some e1
    have hk : x.1 = mkKey m := of_decide_eq_true (List.find?_some (p := fun x : NestedKey × Addr × Value => decide (x.1 = mkKey m)) e1)
    obtain ⟨i, hi, rfl⟩ := List.mem_iff_getElem.mp hm
    obtain ⟨a, _, c⟩ := hx i _ ms[i] (List.getElem?_eq_getElem hi) (List.getElem?_eq_getElem (by omega))
    refine ⟨i, ?_, by rw [← e2]; exact c⟩
    rw [List.getElem?_eq_getElem (by omega)]
    exact congrArg some (mkKey_inj (a.symm.trans hk))
end
def tDNewN (P : Program) (w : World) : TE := fun _ H Q => ∀ p, H p = none → Q (.ref p) (upd H p (NDo P w p []))
theorem pe_dnewN {X : Cx} {pos : Pos} : PE X (.Dict [] [] pos) (tDNewN X.prog X.w) := ⟨fun pins s σ H Q I h =>
  wpAny_Dict_empty ⟨.ref s.heap.objs.size, _, I.laid (a := s.heap.objs.size) (o := NDo X.prog X.w s.heap.objs.size []) (t' := s.toks) (fun _ _ q => Heap.get?_push_of_some _ q) (Nat.le_refl _)
    (nd_new (beq_eq_false_iff_ne.mpr (Ne.symm (Nat.ne_of_lt I.big))) ⟨_, #[], 0, Heap.get?_push_size _ rfl, ⟨rfl, rfl, rfl⟩, rfl, rfl⟩), rfl, h _ (I.hok.fresh (Nat.le_refl _))⟩⟩
theorem ndict_nil {P : Program} {w : World} {H : Hp} {d : Addr} : NDict P w (upd H d (NDo P w d [])) d [] := ⟨[], upd_same, rfl, List.nodup_nil, fun i x m e => by simp at e⟩
/-- d.setdefault(mark, len of d) -/
def tSetdN (P : Program) (w : World) (td ty tx : TE) : TE := fun σ H Q => td σ H fun x H1 => ∃ (a : Addr) (ms0 : List MK), x = .ref a ∧ NDict P w H1 a ms0 ∧ ty σ H1 fun y H2 => tx σ H2 fun z H3 => ∃ (b : Addr) (m : MK) (ms : List MK), y = .ref b ∧ MarkAt H3 b m ∧ NDict P w H3 a ms ∧ z = .int (ms.length : Nat) ∧ ms.length < 1000 ∧
  (∀ i : Nat, ms[i]? = some m → Q (.int (i : Nat)) H3) ∧ (m ∉ ms → ∀ H', (∀ c, c ≠ a → H' c = H3 c) → NDict P w H' a (ms ++ [m]) → Q (.int (ms.length : Nat)) H')
theorem pe_setdN {X : Cx} {o e f : Expr} {td ty tx : TE} {apos cpos : Pos} (hu : X.A.units + 9 < cLine) (ho : PE X o td) (he : PE X e ty) (hf : PE X f tx) (m : M2 X o "setdefault" apos e f cpos) :
    PE X (.Call (.Attribute o "setdefault" apos) [e, f] [] cpos) (tSetdN X.prog X.w td ty tx) := by
  refine ⟨fun pins s σ H Q I h => ?_⟩
  refine wpAny_Call_method m.base m.few m.line PySem.F.plainAttrs_dict PySem.F.slot_dict_setdefault PySem.F.type_dict_setdefault (thn (ho.run pins s σ H _ I h) fun u s1 ⟨x, H1, I1, rx, a, ms0, ex, nd0, q1⟩ => ?_)
  subst ex
  obtain rfl : u = Value.ref a := rx
  obtain ⟨xs0, e0, l0, n0, x0⟩ := nd0
  obtain ⟨hd0, dd0⟩ := nd_of I1.hok e0 l0 n0 x0
  refine ⟨dd0.typeIs, fun b q => ?_, ?_⟩
  · cases q
    obtain ⟨ob, _, _, h1, h2, _⟩ := dd0
    exact ⟨ob, h1, h2.2.1⟩
  rw [m.trees]
  refine Calls.callWith_builtin rfl (Calls.evalArgs_plain (Calls.spliced_cons (thn (he.run pins s1 σ H1 _ I1 q1) fun iv s2 ⟨y, H2, I2, ry, q2⟩ =>
    Calls.spliced_cons (thn (hf.run pins s2 σ H2 _ I2 q2) fun fv s3 ⟨z, H3, I3, rz, b, mm, ms, ey, hb, nd, ez, hl, q3, q4⟩ => Calls.spliced_nil ?_))))
  subst ey ez
  obtain rfl : iv = Value.ref b := ry
  obtain ⟨xs, e1, l1, n1, x1⟩ := nd
  obtain ⟨hd, dd⟩ := nd_of I3.hok e1 l1 n1 x1
  obtain ⟨k1, k2⟩ := nd_look l1 n1 x1 mm
  refine call_setdefault_heap (knd := nestedKind X.prog X.w) (hsz := by rw [l1, sizeLine_eq]; omega) (by show X.A.units + 1 + 8 < cLine; omega) (hb.key I3.hok) hd dd (fun p hp => ?_) fun hn h' dd' hs => ?_
  · obtain ⟨i, e2, r2⟩ := k2 p hp
    exact ⟨.int (i : Nat), H3, I3.tok _, r2, q3 i e2⟩
  · have hnm : mm ∉ ms := fun q => by
      obtain ⟨i, hi, e2⟩ := List.mem_iff_getElem.mp q
      have hi2 : i < xs.length := by omega
      obtain ⟨c1, _, _⟩ := x1 i xs[i] mm (List.getElem?_eq_getElem hi2) (by rw [List.getElem?_eq_getElem hi, e2])
      unfold atKey at hn
      rw [Option.map_eq_none_iff] at hn
      have := List.find?_eq_none.mp hn xs[i] (List.getElem_mem hi2)
      exact this (decide_eq_true c1)
    rw [storedH_new hn] at dd'
    obtain ⟨ob, es, ep, h1, h2, h3, h4, _, _⟩ := dd'
    have I4 : L2.Inv X pins σ (upd H3 a (NDo X.prog X.w a (xs ++ [(mkKey mm, b, fv)]))) { s3 with heap := h', toks := s3.toks + (nestedKind X.prog X.w).draws (mkKey mm) } :=
      d_write I3 (by rw [e1]; exact True.intro) hs ⟨ob, h1⟩ (nd_new hd ⟨ob, es, ep, h1, h2, h3, h4⟩)
    refine ⟨.int (ms.length : Nat), _, I4, rz, q4 hnm _ (fun c hc => upd_ne hc) ⟨xs ++ [(mkKey mm, b, fv)], upd_same, by simp [l1], ?_, fun i x mz ex em => ?_⟩⟩
    · rw [List.nodup_append]
      refine ⟨n1, by simp, fun c hc d hd' e => ?_⟩
      rw [List.mem_singleton.mp hd'] at e
      exact hnm (e ▸ hc)
    · have kp : ∀ {c : Addr} {m : MK}, MarkAt H3 c m → MarkAt (upd H3 a (NDo X.prog X.w a (xs ++ [(mkKey mm, b, fv)]))) c m := fun y => y.keeps fun c ys ec => by
        rw [upd_ne (ne_of ec e1 (fun z => nomatch z))]
        exact ec
      by_cases hi : i < xs.length
      · rw [List.getElem?_append_left hi] at ex
        rw [List.getElem?_append_left (by omega)] at em
        obtain ⟨c1, c2, c3⟩ := x1 i x mz ex em
        exact ⟨c1, kp c2, c3⟩
      · rw [List.getElem?_append_right (by omega)] at ex em
        have e3 : i = xs.length := by
          by_cases z : i - xs.length = 0
          · omega
          · rw [List.getElem?_eq_none (by simp; omega)] at ex
            cases ex
        subst e3
        rw [Nat.sub_self] at ex
        rw [l1, Nat.sub_self] at em
        cases ex
        cases em
        exact ⟨rfl, kp hb, by rw [l1]; exact rz⟩
theorem call_lenN {X : Cx} : CallR X (.builtin "len") (fun xs H Q => ∃ (p : Addr) (ms : List MK), xs = [V.ref p] ∧ NDict X.prog X.w H p ms ∧ ms.length < 1000 ∧ Q (.int (ms.length : Nat)) H) := by
  intro pins s σ H xs us Q I r h
  obtain ⟨p, ms, rfl, ⟨xs, e1, l1, n1, x1⟩, hl, q⟩ := h
  obtain ⟨u, rfl, rx⟩ := vals1 r
  obtain rfl : u = .ref p := rx
  obtain ⟨hd, dd⟩ := nd_of I.hok e1 l1 n1 x1
  refine call_len_dictH hd dd (by rw [l1]; omega) ?_
  rw [l1]
  exact ⟨.int ((ms.length : Nat) : Int), H, I.tok _, ⟨_, rfl⟩, q⟩
end K70
namespace K70
open PySem PySem.Spec PyProof.Rows L2
/-! ### the text -/
abbrev PW : Program := PySem.Challenge.pw_markseam_k70_whole_seams_cut_and_joined
def top (i : Nat) : Stmt := PW.main.body.getD i (.Pass ⟨0, 0, 0, 0⟩)
abbrev FnP (K : PySem.W.Frag) (x q : String) (st : Stmt) (f : Addr) (fd : FuncData) : Prop := FunD K (Str.ofString x) (Str.ofString q) (defArgs st) (defBody st) (defScope st) [] [] f fd
/-- the rule for a def out of which nothing is raised -/
theorem okD {P : Program} {w : World} {K : PySem.W.Frag} {mg : Str → Option Value} {base : Heap} {x qual : Str} {params : Arguments} {body : List Stmt} {scope : Scope} {dvs : List V} {kws : List (Str × V)} {f : Addr} {fd : FuncData} {N ps : List Str} {k : Nat} {sp : Sp}
    (F : FunD K x qual params body scope dvs kws f fd) (S : FnScope N ps scope) (len : ∀ vs H Q E, sp vs H Q E → vs.length = ps.length)
    (hbody : ∀ (cdv : Value) (A : Around) (outer : List Env) (s : Shared) (H : Hp) (vs : List V) (Q : VK) (E : XK), L2.Room k (A.deeper (envOfC qual scope s.heap.objs.size f cdv)) → sp vs H Q E →
      ∃ t, PSs (cxOf CX0 P w K mg base N qual scope f cdv A outer s H E).nox body t ∧ t { nx := fun _ H' => Q .non H', rt := Q } (L2.start N vs) H) : FnOk P w K mg base CX0 (k + 1) f fd ps sp :=
  F.ok S len fun cdv A outer s H vs Q E hr h => by
    obtain ⟨t, h, q⟩ := hbody cdv A outer s H vs Q E hr h
    exact ⟨t, h.nox, q⟩
/-! ### what a caller needs -/
section
variable (P : Program) (w : World) (K : PySem.W.Frag) (mg : Str → Option Value) (base : Heap)
/-- a def of the module, by its name -/
structure Cal (k : Nat) (x : Str) (sp : Sp) (dvs : List V) : Prop where
  ex : ∃ (f : Addr) (fd : FuncData) (ps : List Str) (ds : List Value), FnOk P w K mg base CX0 k f fd ps sp ∧ mg x = some (.ref f) ∧ PySem.W.keepIn K (.ref f) = true ∧ Binds K fd ps ds ∧ Vals dvs ds
/-- called with n values by their places and others by names ks -/
structure CalK (k : Nat) (x : Str) (n : Nat) (ks : List Str) (sp : Sp) (gV : List V → List V → List V) : Prop where
  ex : ∃ (f : Addr) (fd : FuncData) (ps : List Str) (g : List Value → List Value → List Value), FnOk P w K mg base CX0 k f fd ps sp ∧ mg x = some (.ref f) ∧ PySem.W.keepIn K (.ref f) = true ∧ KBn K fd ps n ks g gV
structure Met (k : Nat) (C : Addr) (m : Str) (sp : Sp) : Prop where
  ex : ∃ (f : Addr) (fd : FuncData) (ps : List Str), Cls K C ∧ Meth K C m f ∧ FnOk P w K mg base CX0 k f fd ps sp ∧ Binds K fd ps []
structure Mak (k : Nat) (x : Str) (C : Addr) (sp : Sp) (dvs : List V) : Prop where
  ex : ∃ (f : Addr) (fd : FuncData) (ps : List Str) (ds : List Value), Mk K C f ∧ FnOk P w K mg base CX0 k f fd ps sp ∧ mg x = some (.ref C) ∧ Binds K fd ps ds ∧ Vals dvs ds
structure MakK (k : Nat) (x : Str) (C : Addr) (n : Nat) (ks : List Str) (sp : Sp) (gV : List V → List V → List V) : Prop where
  ex : ∃ (f : Addr) (fd : FuncData) (ps : List Str) (g : List Value → List Value → List Value), Mk K C f ∧ FnOk P w K mg base CX0 k f fd ps sp ∧ mg x = some (.ref C) ∧ KBn K fd ps (n + 1) ks g gV
end
section
variable {X : Cx} {k j n : Nat} {C : Addr} {x m : Str} {sp : Sp} {dvs : List V} {ks : List Str} {gV : List V → List V → List V} {p pos apos : Pos} {e o : Expr} {es : List Expr} {kws : List Keyword} {ta : TE} {t tk : TA}
theorem ca (c : Cal X.prog X.w X.K X.mg X.base k x sp dvs) (hr : Room j X.A) (hk : k ≤ j) (hg : Gl X x) (ha : PA X (e :: es) t)
    (hdb : (x == ("__debug__" : Str)) = false := by decide) (he : starEach (e :: es) X.env = (false, eval e X.env) :: starEach es X.env := by rfl) (hpl : (backTo pos (starEach es X.env)).any (·.1) = false := by rfl) :
    PE X (.Call (.Name x p) (e :: es) [] pos) (tCall sp dvs E0 t) := by
  obtain ⟨f, fd, ps, ds, F, hm, kp, b, d⟩ := c.ex
  exact pe_call F (hr.mono hk) hg hm kp b d pass0 ha hdb he hpl
theorem caK (c : CalK X.prog X.w X.K X.mg X.base k x n ks sp gV) (hr : Room j X.A) (hk : k ≤ j) (hg : Gl X x) (ha : PA X (e :: es) t) (hkw : PK X kws tk)
    (hall : (backToKw pos (keywordEach kws X.env)).all (·.1.isSome) = true := by rfl) (hks : (backToKw pos (keywordEach kws X.env)).filterMap (·.1) = ks := by rfl)
    (hdb : (x == ("__debug__" : Str)) = false := by decide) (he : starEach (e :: es) X.env = (false, eval e X.env) :: starEach es X.env := by rfl)
    (hpl : ((backTo pos (starEach (e :: es) X.env)).any (·.1) || (backToKw pos (keywordEach kws X.env)).any (·.1.isNone)) = false := by rfl) :
    PE X (.Call (.Name x p) (e :: es) kws pos) (tCallN n ks.length sp gV E0 t tk) := by
  obtain ⟨f, fd, ps, g, F, hm, kp, b⟩ := c.ex
  exact pe_callN F (hr.mono hk) hg hm kp b pass0 ha hkw hall hks hdb he hpl
theorem caK0 (c : CalK X.prog X.w X.K X.mg X.base k x 0 ks sp gV) (hr : Room j X.A) (hk : k ≤ j) (hg : Gl X x) (hkw : PK X kws tk)
    (hall : (backToKw pos (keywordEach kws X.env)).all (·.1.isSome) = true := by rfl) (hks : (backToKw pos (keywordEach kws X.env)).filterMap (·.1) = ks := by rfl)
    (hdb : (x == ("__debug__" : Str)) = false := by decide)
    (hpl : ((backTo pos (starEach [] X.env)).any (·.1) || (backToKw pos (keywordEach kws X.env)).any (·.1.isNone)) = false := by rfl) :
    PE X (.Call (.Name x p) [] kws pos) (tCallN 0 ks.length sp gV E0 tNil tk) := by
  obtain ⟨f, fd, ps, g, F, hm, kp, b⟩ := c.ex
  refine ⟨fun pins s σ H Q I h => ?_⟩
  refine wpAny_Call_Name_kw (ld_glob I hg hm ?_ hdb)
  refine PySem.W.callWith_KW0 (h₀ := X.base) I.ok.mod.kin kp hall ?_ hpl
  refine thn (hkw.run pos pins s σ H _ I h) fun ws s2 ⟨zs, H2, I2, rz, l1, l2, q2⟩ => ⟨I2.kIn, ?_⟩
  rw [hks]
  exact run_fnN (us := []) (vs := []) F (hr.mono hk) b pass0 I2 .nil rz l1 l2 q2
theorem mk_ (c : Mak X.prog X.w X.K X.mg X.base k x C sp dvs) (hr : Room j X.A) (hk : k + 1 ≤ j) (hg : Gl X x) (ha : PA X (e :: es) t)
    (hdb : (x == ("__debug__" : Str)) = false := by decide) (he : starEach (e :: es) X.env = (false, eval e X.env) :: starEach es X.env := by rfl) (hpl : (backTo pos (starEach es X.env)).any (·.1) = false := by rfl) :
    PE X (.Call (.Name x p) (e :: es) [] pos) (tMake C sp dvs E0 t) := by
  obtain ⟨f, fd, ps, ds, M, F, hm, b, d⟩ := c.ex
  exact pe_make M F (hr.mono hk) hg hm b d pass0 ha hdb he hpl
theorem mkK (c : MakK X.prog X.w X.K X.mg X.base k x C n ks sp gV) (hr : Room j X.A) (hk : k + 1 ≤ j) (hg : Gl X x) (ha : PA X (e :: es) t) (hkw : PK X kws tk)
    (hall : (backToKw pos (keywordEach kws X.env)).all (·.1.isSome) = true := by rfl) (hks : (backToKw pos (keywordEach kws X.env)).filterMap (·.1) = ks := by rfl)
    (hdb : (x == ("__debug__" : Str)) = false := by decide) (he : starEach (e :: es) X.env = (false, eval e X.env) :: starEach es X.env := by rfl)
    (hpl : ((backTo pos (starEach (e :: es) X.env)).any (·.1) || (backToKw pos (keywordEach kws X.env)).any (·.1.isNone)) = false := by rfl) :
    PE X (.Call (.Name x p) (e :: es) kws pos) (tMakeN C n ks.length sp gV E0 t tk) := by
  obtain ⟨f, fd, ps, g, M, F, hm, b⟩ := c.ex
  exact pe_makeN M F (hr.mono hk) hg hm b pass0 ha hkw hall hks hdb he hpl
theorem mt {pl : Sem Bool} (c : Met X.prog X.w X.K X.mg X.base k C m sp) (hr : Room j X.A) (hk : k ≤ j) (he : PE X o ta) (ha : PA X (e :: es) t)
    (hst : starEach (e :: es) X.env = (false, eval e X.env) :: starEach es X.env := by rfl) (hpl : (backTo pos (starEach es X.env)).any (·.1) = false := by rfl)
    (ht : eval (.Call (.Attribute o m apos) (e :: es) [] pos) X.env = (do
      let ov ← eval o X.env
      standAt apos.atName
      let (f, first) ← holding [ov] (getMethod ov m pl)
      callWith pos f first (backTo pos (starEach (e :: es) X.env)) (backToKw pos (keywordEach [] X.env))) := by rfl) :
    PE X (.Call (.Attribute o m apos) (e :: es) [] pos) (tMeth C m sp [] E0 ta t) := by
  obtain ⟨f, fd, ps, hc, hm, F, b⟩ := c.ex
  exact pe_meth (pl := pl) he hc hm F (hr.mono hk) b .nil pass0 ha hst hpl ht
theorem mt0 {pl : Sem Bool} (c : Met X.prog X.w X.K X.mg X.base k C m sp) (hr : Room j X.A) (hk : k ≤ j) (he : PE X o ta)
    (ht : eval (.Call (.Attribute o m apos) [] [] pos) X.env = (do
      let ov ← eval o X.env
      standAt apos.atName
      let (f, first) ← holding [ov] (getMethod ov m pl)
      callWith pos f first (backTo pos (starEach [] X.env)) (backToKw pos (keywordEach [] X.env))) := by rfl) :
    PE X (.Call (.Attribute o m apos) [] [] pos) (tMeth C m sp [] E0 ta tNil) := by
  obtain ⟨f, fd, ps, hc, hm, F, b⟩ := c.ex
  exact pe_meth0 (pl := pl) he hc hm F (hr.mono hk) b .nil pass0 ht
end
def SIG : Str := "ABCDEFGHIJKLMNOPQRSTUVWXYZabcdefghijklmnopqrstuvwxyz"
/-- what the top has left -/
structure Txt (K : PySem.W.Frag) (mg : Str → Option Value) (C : Addr) : Prop where
  isi : mg "isinstance" = none
  int : mg "int" = none
  bool : mg "bool" = none
  str : mg "str" = none
  tuple : mg "tuple" = none
  list : mg "list" = none
  all : mg "all" = none
  len : mg "len" = none
  set : mg "set" = none
  enu : mg "enumerate" = none
  min : mg "min" = none
  max : mg "max" = none
  range : mg "range" = none
  rev : mg "reversed" = none
  zip : mg "zip" = none
  sig : ∃ t, mg "SIGNS" = some (.str SIG t)
  ml : ∃ t, mg "MOST_LETTERS" = some (.int 16 t)
  mr : ∃ t, mg "MOST_ROOMS" = some (.int 200 t)
  cl : Cls K C
  nK : NoAttr K C "known"
  nM : NoAttr K C "made"
  nB : NoAttr K C "begun"
/-! ### texts -/
abbrev tx (t : Tx) : V := .str (SS t)
abbrev nn (n : Nat) : V := .int (n : Int)
theorem ss_app (a b : Tx) : SS a ++ SS b = SS (a ++ b) := by
  show (⟨a.toArray ++ b.toArray⟩ : Str) = ⟨(a ++ b).toArray⟩
  simp
theorem ss_len (a : Tx) : (SS a).length = a.length := by
  show a.toArray.size = _
  simp
theorem ss_cps (a : Tx) : (SS a).cps.toList = a := by simp
theorem sgn_tx (c : Nat) : sgn c = tx [c] := rfl
theorem sig_ss : SIG = SS sg := by decide +kernel
theorem tx_inj {a b : Tx} (h : tx a = tx b) : a = b := ss_inj (V.str.inj h)
theorem tx_dec (a b : Tx) : decide (tx a = tx b) = decide (a = b) := by
  by_cases h : a = b
  · rw [h, decide_eq_true rfl, decide_eq_true rfl]
  · rw [decide_eq_false h, decide_eq_false (fun q => h (tx_inj q))]
theorem cut_from (a : Tx) (n : Nat) : cutS (SS a) (some (n : Int)) none = SS (a.drop n) := by
  unfold cutS
  rw [ss_len, ss_cps]
  have h1 : HT.sIx a.length 0 (some (n : Int)) = min n a.length := HT.sIx_nat _ _ _
  have h2 : HT.sIx a.length a.length none = a.length := rfl
  rw [h1, h2]
  have : (a.drop (min n a.length)).take (a.length - min n a.length) = a.drop n := by
    by_cases h : n ≤ a.length
    · rw [Nat.min_eq_left h, List.take_of_length_le (by rw [List.length_drop]; omega)]
    · rw [Nat.min_eq_right (by omega), List.drop_of_length_le (by omega : a.length ≤ n)]
      simp
  rw [this]
theorem cut_to (a : Tx) (n : Nat) : cutS (SS a) none (some (n : Int)) = SS (a.take n) := by
  unfold cutS
  rw [ss_len, ss_cps]
  have h1 : HT.sIx a.length 0 none = 0 := rfl
  have h2 : HT.sIx a.length a.length (some (n : Int)) = min n a.length := HT.sIx_nat _ _ _
  rw [h1, h2, List.drop_zero, Nat.sub_zero]
  have : a.take (min n a.length) = a.take n := by
    by_cases h : n ≤ a.length
    · rw [Nat.min_eq_left h]
    · rw [Nat.min_eq_right (by omega), List.take_length, List.take_of_length_le (by omega)]
  rw [this]
theorem cut_in (a : Tx) (m n : Nat) (hmn : m ≤ n) (hn : n ≤ a.length) : cutS (SS a) (some (m : Int)) (some (n : Int)) = SS ((a.drop m).take (n - m)) := by
  unfold cutS
  rw [ss_len, ss_cps, HT.sIx_nat, HT.sIx_nat, Nat.min_eq_left hn, Nat.min_eq_left (by omega)]
theorem line_ok {n : Nat} (h : n ≤ 16000000) : n ≤ sizeLine := by rw [sizeLine_eq]; omega
theorem line_lt {n : Nat} (h : n ≤ 16000000) : n < sizeLine := by rw [sizeLine_eq]; omega
/-! ### heaps -/
theorem same_upd {H : Hp} {p : Addr} {o : HO} (h : H p = none) : Same H (upd H p o) := fun b x e => by
  rw [upd_ne (ne_of_none e h)]
  exact e
theorem _root_.L2.Same.up {H H' : Hp} {p : Addr} {o : HO} (s : Same H H') (h : H' p = none) : Same H (upd H' p o) := s.trans (same_upd h)
/-- a write to what is newer -/
theorem _root_.L2.Same.put {H H' : Hp} {p : Addr} {o : HO} (s : Same H H') (h : H p = none) : Same H (L2.upd H' p o) := fun b x e => by
  rw [upd_ne (ne_of_none e h)]
  exact s b x e
theorem _root_.L2.Same.new {H H' : Hp} (s : Same H H') {p : Addr} (h : H' p = none) : H p = none := s.free h
def WayAt (H : Hp) (v : V) (w : Way) : Prop := ∃ t, v = .ref t ∧ H t = some (.tup [tx w.1, nn w.2])
/-- a list of things, each told by R -/
def LAt {α : Type} (R : Hp → V → α → Prop) (H : Hp) (a : Addr) (xs : List α) : Prop := ∃ vs, H a = some (.lst vs) ∧ vs.length = xs.length ∧ ∀ (i : Nat) (v : V) (x : α), vs[i]? = some v → xs[i]? = some x → R H v x
def RoomAt (H : Hp) (v : V) (r : Rm) : Prop := ∃ t p, v = .ref t ∧ H t = some (.tup [tx r.1, .ref p]) ∧ LAt WayAt H p r.2
abbrev RoomsAt : Hp → Addr → List Rm → Prop := LAt RoomAt
theorem WayAt.mono {H H' : Hp} {v : V} {w : Way} (s : Same H H') (h : WayAt H v w) : WayAt H' v w := let ⟨t, e, q⟩ := h; ⟨t, e, s _ _ q⟩
theorem LAt.mono {α : Type} {R : Hp → V → α → Prop} (hR : ∀ {H H' : Hp} {v : V} {x : α}, Same H H' → R H v x → R H' v x) {H H' : Hp} (s : Same H H') {a : Addr} {xs : List α} (h : LAt R H a xs) : LAt R H' a xs := by
  obtain ⟨vs, e, l, q⟩ := h
  exact ⟨vs, s _ _ e, l, fun i v x h1 h2 => hR s (q i v x h1 h2)⟩
theorem RoomAt.mono {H H' : Hp} {v : V} {r : Rm} (s : Same H H') (h : RoomAt H v r) : RoomAt H' v r := by
  obtain ⟨t, p, e, q, l⟩ := h
  exact ⟨t, p, e, s _ _ q, LAt.mono (R := WayAt) (fun a b => WayAt.mono a b) s l⟩
theorem RoomsAt.mono {H H' : Hp} (s : Same H H') {a : Addr} {rs : List Rm} (h : RoomsAt H a rs) : RoomsAt H' a rs := LAt.mono (R := RoomAt) (fun a b => RoomAt.mono a b) s h
theorem LAt.nil {α : Type} {R : Hp → V → α → Prop} {H : Hp} {a : Addr} (h : H a = some (.lst [])) : LAt R H a [] := ⟨[], h, rfl, fun i v x e => by simp at e⟩
theorem LAt.get {α : Type} {R : Hp → V → α → Prop} {H : Hp} {a : Addr} {xs : List α} (h : LAt R H a xs) {i : Nat} {x : α} (e : xs[i]? = some x) : ∃ vs v, H a = some (.lst vs) ∧ vs.length = xs.length ∧ vs[i]? = some v ∧ R H v x := by
  obtain ⟨vs, h1, h2, h3⟩ := h
  have hi : i < vs.length := by rw [h2]; exact (List.getElem?_eq_some_iff.mp e).1
  exact ⟨vs, vs[i], h1, h2, List.getElem?_eq_getElem hi, h3 i _ x (List.getElem?_eq_getElem hi) e⟩
/-- one more at the end; the list is newer than what the others are told by -/
theorem LAt.snoc {α : Type} {R : Hp → V → α → Prop} (hR : ∀ {H H' : Hp} {v : V} {x : α}, Same H H' → R H v x → R H' v x) {H H' : Hp} {vs : List V} {xs : List α} {v : V} {x : α} (hl : vs.length = xs.length) (h : ∀ (i : Nat) (v : V) (x : α), vs[i]? = some v → xs[i]? = some x → R H v x) (s : Same H H') (hv : R H' v x) :
    (vs ++ [v]).length = (xs ++ [x]).length ∧ ∀ (i : Nat) (u : V) (y : α), (vs ++ [v])[i]? = some u → (xs ++ [x])[i]? = some y → R H' u y := by
  refine ⟨by simp [hl], fun i u y e1 e2 => ?_⟩
  by_cases hi : i < vs.length
  · rw [List.getElem?_append_left hi] at e1
    rw [List.getElem?_append_left (by omega)] at e2
    exact hR s (h i u y e1 e2)
  · rw [List.getElem?_append_right (by omega)] at e1 e2
    have e3 : i - vs.length = 0 := by
      by_cases z : i - vs.length = 0
      · exact z
      · rw [List.getElem?_eq_none (by simp; omega)] at e1
        cases e1
    rw [e3] at e1
    rw [show i - xs.length = 0 by omega] at e2
    cases e1
    cases e2
    exact hv
/-- the fields of a machine -/
def flds (m : M) (l : Addr) : List (Str × V) := [("known", tx m.letters), ("made", .ref l), ("begun", tx m.first)]
def MAt (C : Addr) (H : Hp) (a : Addr) (m : M) : Prop := ∃ dx l, H a = some (.ins C dx (flds m l)) ∧ RoomsAt H l m.rooms
theorem MAt.mono {C : Addr} {H H' : Hp} (s : Same H H') {a : Addr} {m : M} (h : MAt C H a m) : MAt C H' a m := by
  obtain ⟨dx, l, e, q⟩ := h
  exact ⟨dx, l, s _ _ e, q.mono s⟩
theorem f_known (m : M) (l : Addr) : (flds m l).lookup ("known" : Str) = some (tx m.letters) := rfl
theorem f_made (m : M) (l : Addr) : (flds m l).lookup ("made" : Str) = some (.ref l) := by
  unfold flds
  rw [List.lookup_cons, show (("made" : Str) == "known") = false by decide +kernel]
  rfl
theorem f_begun (m : M) (l : Addr) : (flds m l).lookup ("begun" : Str) = some (tx m.first) := by
  unfold flds
  rw [List.lookup_cons, show (("begun" : Str) == "known") = false by decide +kernel, List.lookup_cons, show (("begun" : Str) == "made") = false by decide +kernel]
  rfl
theorem f_none (m : M) (l : Addr) {x : Str} (h1 : (x == ("known" : Str)) = false := by decide +kernel) (h2 : (x == ("made" : Str)) = false := by decide +kernel) (h3 : (x == ("begun" : Str)) = false := by decide +kernel) : (flds m l).lookup x = none := by
  unfold flds
  rw [List.lookup_cons, h1, List.lookup_cons, h2, List.lookup_cons, h3]
  rfl
end K70
namespace K70
open PySem PySem.Spec PyProof.Rows L2
section
variable {P : Program} {w : World} {K : PySem.W.Frag} {mg : Str → Option Value} {base : Heap} {C f : Addr} {fd : FuncData}
/-! ### is_whole -/
abbrev sWhole : Stmt := top 8
theorem scWhole : FnScope ["thing"] ["thing"] (defScope sWhole) := ⟨rfl, rfl, rfl, by decide +kernel, rfl, by decide +kernel, by decide +kernel⟩
def spWhole : Sp := fun vs H Q _ => ∃ n : Int, vs = [.int n] ∧ Q (.bl true) H
theorem ok_whole (F : FnP K "is_whole" "is_whole" sWhole f fd) (T : Txt K mg C) : FnOk P w K mg base CX0 1 f fd ["thing"] spWhole := by
  refine okD F scWhole (fun vs H Q E h => ?_) (fun cdv A outer s H vs Q E hr h => ?_)
  · obtain ⟨n, rfl, _⟩ := h
    rfl
  · obtain ⟨n, rfl, q⟩ := h
    refine ⟨_, pss_one (ps_ret (pe_and (pe_callB call_isi (by rfl) T.isi (by decide +kernel) (pa_cons (pv 0) (pa_cons (pe_bltn (v := .ty "int") (by rfl) T.int (by decide +kernel) rfl) pa_nil)))
      (pe_one (pe_not (pe_callB call_isi (by rfl) T.isi (by decide +kernel) (pa_cons (pv 0) (pa_cons (pe_bltn (v := .ty "bool") (by rfl) T.bool (by decide +kernel) rfl) pa_nil))))))), ?_⟩
    refine ⟨_, rfl, V.int n, .ty "int", _, _, true, rfl, .ty _, .base (.int n), kit_ty (by decide +kernel), true, rfl, iteT ?_⟩
    exact ⟨_, rfl, V.int n, .ty "bool", _, _, false, rfl, .ty _, .base (.int n), kit_ty (by decide +kernel), false, rfl, q⟩
/-! ### is_text -/
abbrev sText : Stmt := top 9
theorem scText : FnScope ["thing", "sign"] ["thing"] (defScope sText) := ⟨rfl, rfl, rfl, by decide +kernel, rfl, by decide +kernel, by decide +kernel⟩
def spText : Sp := fun vs H Q _ => ∃ t : Tx, vs = [tx t] ∧ SgT t ∧ t.length ≤ 1000000 ∧ ∀ H', Same H H' → Q (.bl true) H'
theorem ok_text (F : FnP K "is_text" "is_text" sText f fd) (T : Txt K mg C) : FnOk P w K mg base CX0 1 f fd ["thing"] spText := by
  refine okD F scText (fun vs H Q E h => ?_) (fun cdv A outer s H vs Q E hr h => ?_)
  · obtain ⟨n, rfl, _⟩ := h
    rfl
  · obtain ⟨t, rfl, hs, hl, q⟩ := h
    obtain ⟨tk, hsig⟩ := T.sig
    refine ⟨_, pss_one (ps_ret (pe_and (pe_callB call_isi (by rfl) T.isi (by decide +kernel) (pa_cons (pv 0) (pa_cons (pe_bltn (v := .ty "str") (by rfl) T.str (by decide +kernel) rfl) pa_nil)))
      (pe_one (pe_callB (cr_all rfl) (by rfl) T.all (by decide +kernel) (pa_cons (pe_lc (own := [("sign", 1)]) (g := gName 1) (tt := tYes) rfl scText.nd (pi_str (pv 0)) (blkOk_by (N := ["thing", "sign"]) (sc := defScope sText) (by decide +kernel))
        (fun _ _ _ _ _ => pg_name (i := 1) scText.nd rfl (Or.inl rfl)) (fun _ _ _ _ _ => pts_nil) (fun _ _ _ _ _ => pe_cmpR op_in_sign (pv 1) (pe_glob (v := .str SIG) rfl hsig ⟨_, rfl⟩) rfl)) pa_nil))))), ?_⟩
    refine ⟨_, rfl, tx t, .ty "str", _, _, true, rfl, .ty _, .base (.str _), kit_ty (by decide +kernel), true, rfl, iteT ?_⟩
    refine ⟨_, rfl, SS t, rfl, fun D hD => lc_it walk_str (fun i H1 => Same H H1 ∧ H1 D = some (.lst (List.replicate i (.bl true)))) ⟨same_upd hD, by rw [upd_same]; rfl⟩ (fun _ _ _ _ => trivial) ?_ ?_⟩
    · rintro i x H1 H2 hi ⟨s1, e1⟩ ⟨rfl, c, ec, rfl⟩
      have hc : c ∈ t := List.mem_of_getElem? (by simpa using ec)
      have hm : c ∈ SIG.cps.toList := by rw [sig_ss, ss_cps]; exact hs c hc
      have hi' : i < t.length := by simpa using hi
      refine ⟨rfl, _, rfl, c, SIG, rfl, rfl, _, e1, by rw [List.length_replicate]; exact line_lt (by omega), s1.put hD, ?_⟩
      rw [upd_same, decide_eq_true hm, List.replicate_succ']
    · rintro H1 ⟨s1, e1⟩
      refine ⟨D, _, rfl, by rw [show List.replicate (SS t).cps.size (V.bl true) = (List.replicate (SS t).cps.size true).map V.bl by rw [List.map_replicate]] at e1; exact .inl (.inl e1), ?_⟩
      rw [show (List.replicate (SS t).cps.size true).all id = true by rw [List.all_eq_true]; intro b hb; exact (List.eq_of_mem_replicate hb)]
      exact q H1 s1
/-! ### want_letters -/
abbrev sWantL : Stmt := top 10
theorem scWantL : FnScope ["letters"] ["letters"] (defScope sWantL) := ⟨rfl, rfl, rfl, by decide +kernel, rfl, by decide +kernel, by decide +kernel⟩
def spWantL : Sp := fun vs H Q _ => ∃ t : Tx, vs = [tx t] ∧ LOk t ∧ ∀ H', Same H H' → Q .non H'
theorem sg_small {t : Tx} (h : SgT t) : (SS t).cps.all (· < 128) = true := by
  rw [Array.all_eq_true]
  intro i hi
  have h1 : (SS t).cps[i] ∈ t := by
    have : (SS t).cps[i] ∈ (SS t).cps.toList := by simp
    simpa using this
  have h2 := h _ h1
  have h3 : ∀ c ∈ sg, c < 128 := by decide
  exact decide_eq_true (h3 _ h2)
theorem ok_wantL (F : FnP K "want_letters" "want_letters" sWantL f fd) (T : Txt K mg C) (cT : Cal P w K mg base 1 "is_text" spText []) : FnOk P w K mg base CX0 2 f fd ["letters"] spWantL := by
  refine okD F scWantL (fun vs H Q E h => ?_) (fun cdv A outer s H vs Q E hr h => ?_)
  · obtain ⟨n, rfl, _⟩ := h
    rfl
  · obtain ⟨t, rfl, L, q⟩ := h
    obtain ⟨tk, hml⟩ := T.ml
    refine ⟨_, pss_one (ps_if (L2.PW.pt (pw_or (pt_not (pt_val (ca cT hr (by decide) (by rfl) (pa_cons (pv 0) pa_nil)))) (pw_or (pt_not (pt_chain op_le op_le pe_int (pe_callB call_len_str (by rfl) T.len PySem.boot_len (pa_cons (pv 0) pa_nil)) (pe_glob (v := .int 16) rfl hml ⟨_, rfl⟩)))
      (pw_or1 (pt_cmpR op_ne (pe_lenSetT (by rfl) T.len (by rfl) T.set (pv 0)) (pe_callB call_len_str (by rfl) T.len PySem.boot_len (pa_cons (pv 0) pa_nil)) (nomark _)))))) (pss_one ps_never) pss_nil), ?_⟩
    refine ⟨_, rfl, t, rfl, L.sg, by have := L.le; omega, fun H1 s1 => ⟨true, rfl, iteF ?_⟩⟩
    have h1 : decide ((1 : Int) ≤ ((SS t).length : Int)) = true := decide_eq_true (by rw [ss_len]; have := L.pos; omega)
    have h2 : decide (((SS t).length : Int) ≤ 16) = true := decide_eq_true (by rw [ss_len]; have := L.le; omega)
    have hl : (SS t).length ≤ sizeLine := line_ok (by rw [ss_len]; have := L.le; omega)
    refine ⟨_, rfl, SS t, rfl, hl, _, _, rfl, rfl, _, rfl, ?_⟩
    rw [h1]
    refine ⟨_, _, rfl, rfl, _, rfl, ?_⟩
    rw [h2]
    refine iteF ⟨_, rfl, SS t, rfl, sg_small L.sg, by rw [ss_cps]; exact L.nd, by rw [ss_len]; have := L.le; omega, _, rfl, SS t, rfl, hl, rfl, _, rfl, ?_⟩
    rw [decide_eq_true rfl]
    exact q H1 s1
/-! ### want_word -/
abbrev sWantW : Stmt := top 11
theorem scWantW : FnScope ["word", "letters", "known", "at", "sign"] ["word", "letters"] (defScope sWantW) := ⟨rfl, rfl, rfl, by decide +kernel, rfl, by decide +kernel, by decide +kernel⟩
def spWantW : Sp := fun vs H Q _ => ∃ y ls : Tx, vs = [tx y, tx ls] ∧ LOk ls ∧ Wd ls y ∧ ∀ H', Same H H' → Q .non H'
theorem ok_wantW {dv : List V} (F : FunD K "want_word" "want_word" (defArgs sWantW) (defBody sWantW) (defScope sWantW) dv [] f fd) (T : Txt K mg C) (cL : Cal P w K mg base 2 "want_letters" spWantL []) : FnOk P w K mg base CX0 3 f fd ["word", "letters"] spWantW := by
  refine okD F scWantW (fun vs H Q E h => ?_) (fun cdv A outer s H vs Q E hr h => ?_)
  · obtain ⟨y, ls, rfl, _⟩ := h
    rfl
  · obtain ⟨y, ls, rfl, L, W, q⟩ := h
    obtain ⟨tk, hsig⟩ := T.sig
    refine ⟨_, pss_cons (ps_set (i := 2) scWantW.nd rfl (.inl rfl) (pe_glob (v := .str SIG) rfl hsig ⟨_, rfl⟩))
      (pss_cons (ps_if (pt_cmpR op_notN (pv 1) pe_non (nomark _)) (pss_cons (ps_expr (ca cL hr (by decide) (by rfl) (pa_cons (pv 1) pa_nil))) (pss_one (ps_set (i := 2) scWantW.nd rfl (.inl rfl) (pv 1)))) pss_nil)
      (pss_cons (ps_if (pt_not (pt_val (pe_callB call_isi (by rfl) T.isi (by decide +kernel) (pa_cons (pv 0) (pa_cons (pe_bltn (v := .ty "str") (by rfl) T.str (by decide +kernel) rfl) pa_nil))))) (pss_one ps_never) pss_nil)
      (pss_one (ps_for PassesOwn.never rfl (pi_enumT (by rfl) T.enu (pa_cons (pv 0) pa_nil)) (pg_tup rfl (pgs_cons (pg_name (i := 3) scWantW.nd rfl (.inl rfl)) (pgs_cons (pg_name (i := 4) scWantW.nd rfl (.inl rfl)) pgs_nil)))
        (pss_one (ps_if (pt_cmpR op_notIn_sign (pv 4) (pv 2) rfl) (pss_one ps_never) pss_nil)))))), ?_⟩
    refine ⟨_, rfl, rfl, _, rfl, iteT ?_⟩
    refine ⟨_, rfl, ls, rfl, L, fun H1 s1 => ⟨_, rfl, ?_⟩⟩
    refine ⟨_, rfl, tx y, .ty "str", _, _, true, rfl, .ty _, .base (.str _), kit_ty (by decide +kernel), true, rfl, iteF ?_⟩
    refine ⟨_, rfl, SS y, rfl, for_it (walk_enumS (xs := y.map sgn)) (fun i σ H2 => Same H H2 ∧ ∃ a b, σ = [some (tx y), some (tx ls), some (tx ls), a, b]) ⟨s1, none, none, rfl⟩ (fun i σ H2 _ _ => by show y.map sgn = _; rw [ss_cps]) ?_ ?_⟩
    · rintro i x σ H2 H3 hi ⟨s2, a, b, rfl⟩ ⟨t, u, v, rfl, hn, rfl, e1, e2⟩
      replace e2 : (y.map sgn)[i]? = some v := e2
      rw [List.getElem?_map] at e2
      cases ec : y[i]? with
      | none => rw [ec] at e2; cases e2
      | some c =>
        rw [ec] at e2
        cases e2
        cases e1
        have hc : decide (c ∈ (SS ls).cps.toList) = true := by rw [ss_cps]; exact decide_eq_true (W c (List.mem_of_getElem? ec))
        refine ⟨t, [_, _], rfl, .inl (.inl upd_same), rfl, _, [_], rfl, _, [], rfl, rfl, ?_⟩
        refine ⟨_, rfl, _, rfl, c, SS ls, rfl, rfl, _, rfl, ?_⟩
        rw [hc]
        exact iteF ⟨s2.up hn, _, _, rfl⟩
    · rintro σ H2 ⟨s2, _⟩
      exact q H2 s2
end
end K70
namespace K70
open PySem PySem.Spec PyProof.Rows L2
def rPlus : V → V → Hp → VK → Prop := fun x y H Q => ∃ i j, x = .str i ∧ y = .str j ∧ i.length + j.length ≤ sizeLine ∧ Q (.str (i ++ j)) H
theorem ip_addS {X : Cx} : PIp X .Add rPlus := fun pins s σ H x y u v Q I rx ry h => iop_add_str pins s σ H x y u v Q I rx ry h
theorem lcp_lt {a b : Tx} {j : Nat} (h : j < (lcp a b).length) : ∃ c, a[j]? = some c ∧ b[j]? = some c := by
  obtain ⟨r, hr⟩ := lcp_left a b
  obtain ⟨r', hr'⟩ := lcp_right a b
  refine ⟨(lcp a b)[j], ?_, ?_⟩
  · have : (lcp a b ++ r)[j]? = some (lcp a b)[j] := by rw [List.getElem?_append_left h]; exact List.getElem?_eq_getElem h
    rw [hr] at this
    exact this
  · have : (lcp a b ++ r')[j]? = some (lcp a b)[j] := by rw [List.getElem?_append_left h]; exact List.getElem?_eq_getElem h
    rw [hr'] at this
    exact this
theorem lcp_stop : ∀ (a b : Tx) (c : Nat), a[(lcp a b).length]? = some c → b[(lcp a b).length]? = some c → False
  | [], b, c, h1, h2 => by simp at h1
  | x :: a, [], c, h1, h2 => by simp at h2
  | x :: a, y :: b, c, h1, h2 => by
    unfold lcp at h1 h2
    by_cases e : x = y
    · rw [if_pos e] at h1 h2
      simp at h1 h2
      exact lcp_stop a b c h1 h2
    · rw [if_neg e] at h1 h2
      simp at h1 h2
      exact e (h1.trans h2.symm)
/-- what a while's turn leaves -/
def Less (W : Nat → L2.St → Hp → Prop) (m : Nat) : L2.St → Hp → Prop := fun σ' H' => ∃ m', m' < m ∧ W m' σ' H'
theorem less_ok {W : Nat → L2.St → Hp → Prop} {m : Nat} : ∀ σ' H', Less W m σ' H' → ∃ m', m' < m ∧ W m' σ' H' := fun _ _ z => z
theorem take_lcp (a b : Tx) : a.take (lcp a b).length = lcp a b := (List.prefix_iff_eq_take.mp (lcp_left a b)).symm
section
variable {P : Program} {w : World} {K : PySem.W.Frag} {mg : Str → Option Value} {base : Heap} {C f : Addr} {fd : FuncData}
/-! ### common_start -/
abbrev sComm : Stmt := top 12
theorem scComm : FnScope ["one", "other", "many"] ["one", "other"] (defScope sComm) := ⟨rfl, rfl, rfl, by decide +kernel, rfl, by decide +kernel, by decide +kernel⟩
def spComm : Sp := fun vs H Q _ => ∃ a b : Tx, vs = [tx a, tx b] ∧ a.length ≤ 2000000 ∧ b.length ≤ 2000000 ∧ Q (tx (lcp a b)) H
theorem ok_comm (F : FnP K "common_start" "common_start" sComm f fd) (T : Txt K mg C) : FnOk P w K mg base CX0 1 f fd ["one", "other"] spComm := by
  refine okD F scComm (fun vs H Q E h => ?_) (fun cdv A outer s H vs Q E hr h => ?_)
  · obtain ⟨y, ls, rfl, _⟩ := h
    rfl
  · obtain ⟨a, b, rfl, la, lb, q⟩ := h
    refine ⟨_, pss_cons (ps_set (i := 2) scComm.nd rfl (.inl rfl) pe_int)
      (pss_cons (ps_while PassesOwn.never (L2.PW.pt (pw_and (pt_cmpR op_lt (pv 2) (pe_callB (call_min2 rfl) (by rfl) T.min (by decide +kernel) (pa_cons (pe_callB call_len_str (by rfl) T.len PySem.boot_len (pa_cons (pv 0) pa_nil)) (pa_cons (pe_callB call_len_str (by rfl) T.len PySem.boot_len (pa_cons (pv 1) pa_nil)) pa_nil))) (nomark _))
        (pw_and1 (pt_cmpR op_eq (pe_ix ix_str (pv 0) (pv 2) (fun _ _ => rfl)) (pe_ix ix_str (pv 1) (pv 2) (fun _ _ => rfl)) (nomark _)))))
        (pss_one (ps_aug (i := 2) scComm.nd rfl (.inl rfl) pe_int ip_add)))
      (pss_one (ps_ret (pe_slice sl_str (pv 0) po_none (po_some (pv 2)))))), ?_⟩
    have za : (SS a).length ≤ sizeLine := by rw [ss_len]; exact line_ok (by omega)
    have zb : (SS b).length ≤ sizeLine := by rw [ss_len]; exact line_ok (by omega)
    have l1 : (lcp a b).length ≤ a.length := (lcp_left a b).length_le
    have l2 : (lcp a b).length ≤ b.length := (lcp_right a b).length_le
    refine ⟨fun m σ H' => ∃ j : Nat, m = (lcp a b).length - j ∧ j ≤ (lcp a b).length ∧ σ = [some (tx a), some (tx b), some (nn j)] ∧ H' = H, ⟨_, 0, rfl, Nat.zero_le _, rfl, rfl⟩, ?_⟩
    rintro m σ H' ⟨j, rfl, hj, rfl, rfl⟩
    refine ⟨_, rfl, _, rfl, _, rfl, za, _, rfl, _, rfl, zb, _, _, rfl, _, _, rfl, rfl, _, rfl, ?_⟩
    have hmin : (if ((SS b).length : Int) < ((SS a).length : Int) then ((SS b).length : Int) else ((SS a).length : Int)) = ((min a.length b.length : Nat) : Int) := by
      rw [ss_len, ss_len]
      by_cases h : b.length < a.length
      · rw [if_pos (by omega), Nat.min_eq_right (by omega)]
      · rw [if_neg (by omega), Nat.min_eq_left (by omega)]
    rw [hmin]
    have out : ∀ H2 : Hp, H2 = H' → (lcp a b).length = j → tRet (tSl rSlS (tVar 0) tNoPart (tPart (tVar 2))) { nx := fun _ H' => Q V.non H', rt := Q } [some (tx a), some (tx b), some (nn j)] H2 := by
      rintro H2 rfl e
      refine ⟨_, rfl, _, rfl, _, rfl, SS a, rfl, za, ?_⟩
      rw [cut_to, ← e, take_lcp]
      exact q
    by_cases h1 : j < min a.length b.length
    · have ha : j < a.length := by omega
      have hb : j < b.length := by omega
      rw [decide_eq_true (by omega : (j : Int) < ((min a.length b.length : Nat) : Int))]
      refine iteT ?_
      refine ⟨_, rfl, _, rfl, SS a, _, a[j], rfl, rfl, za, by rw [ss_cps]; exact atI_nat (List.getElem?_eq_getElem ha), ?_⟩
      refine ⟨_, rfl, _, rfl, SS b, _, b[j], rfl, rfl, zb, by rw [ss_cps]; exact atI_nat (List.getElem?_eq_getElem hb), ?_⟩
      refine ⟨rfl, _, rfl, ?_⟩
      by_cases e : a[j] = b[j]
      · rw [decide_eq_true (by rw [e])]
        refine iteT ⟨Less _ _, less_ok, _, rfl, _, _, rfl, rfl, ?_⟩
        · have : j < (lcp a b).length := by
            rcases Nat.lt_or_ge j (lcp a b).length with z | z
            · exact z
            · have z2 : (lcp a b).length = j := by omega
              exact (lcp_stop a b a[j] (by rw [z2]; exact List.getElem?_eq_getElem ha) (by rw [z2, e]; exact List.getElem?_eq_getElem hb)).elim
          exact ⟨_, by omega, j + 1, rfl, by omega, rfl, rfl⟩
      · rw [decide_eq_false (by intro z; exact e (by have := tx_inj (a := [a[j]]) (b := [b[j]]) z; simpa using this))]
        refine iteF (out _ rfl ?_)
        rcases Nat.lt_or_ge j (lcp a b).length with z | z
        · obtain ⟨c, e1, e2⟩ := lcp_lt z
          rw [List.getElem?_eq_getElem ha] at e1
          rw [List.getElem?_eq_getElem hb] at e2
          exact (e (Option.some.inj (e1.trans e2.symm))).elim
        · omega
    · rw [decide_eq_false (by omega)]
      exact iteF (out _ rfl (by omega))
end
end K70
namespace K70
open PySem PySem.Spec PyProof.Rows L2
/-! ### a list that is being made -/
def Off (D : Addr) (H : Hp) : Hp := fun b => if b = D then none else H b
theorem off_upd {D : Addr} {H : Hp} {o : HO} : Off D (upd H D o) = Off D H := by
  funext b
  unfold Off
  by_cases e : b = D
  · rw [if_pos e, if_pos e]
  · rw [if_neg e, if_neg e, upd_ne e]
theorem off_same {D : Addr} {H : Hp} : Same (Off D H) H := fun b x e => by
  unfold Off at e
  by_cases z : b = D
  · rw [if_pos z] at e; cases e
  · rw [if_neg z] at e; exact e
theorem off_at {D b : Addr} {H : Hp} (h : b ≠ D) : Off D H b = H b := if_neg h
theorem _root_.L2.Same.off {H H' : Hp} (s : Same H H') {D : Addr} : Same (Off D H) (Off D H') := fun b x e => by
  by_cases z : b = D
  · unfold Off at e; rw [if_pos z] at e; cases e
  · rw [off_at z] at e ⊢; exact s _ _ e
theorem _root_.L2.Same.offN {H H' : Hp} (s : Same H H') {D : Addr} (h : H D = none) : Same H (Off D H') := fun b x e => by
  have z : b ≠ D := ne_of_none e h
  rw [off_at z]
  exact s _ _ e
def Mono {α : Type} (R : Hp → V → α → Prop) : Prop := ∀ (H H' : Hp) (v : V) (x : α), Same H H' → R H v x → R H' v x
theorem mono_way : Mono WayAt := fun _ _ _ _ s h => h.mono s
theorem mono_room : Mono RoomAt := fun _ _ _ _ s h => h.mono s
structure Bld {α : Type} (R : Hp → V → α → Prop) (H0 : Hp) (D : Addr) (H : Hp) (xs : List α) : Prop where
  same : Same H0 H
  ex : ∃ vs, H D = some (.lst vs) ∧ vs.length = xs.length ∧ ∀ (i : Nat) (v : V) (x : α), vs[i]? = some v → xs[i]? = some x → R (Off D H) v x
theorem Bld.start {α : Type} {R : Hp → V → α → Prop} {H0 : Hp} {D : Addr} (h : H0 D = none) : Bld R H0 D (upd H0 D (.lst [])) [] := ⟨same_upd h, [], upd_same, rfl, fun i v x e => by simp at e⟩
theorem Bld.snoc {α : Type} {R : Hp → V → α → Prop} (hR : Mono R) {H0 H H2 : Hp} {D : Addr} {xs : List α} {v : V} {x : α} (b : Bld R H0 D H xs) (hD : H0 D = none) (s : Same H H2) (h : R (Off D H2) v x) :
    ∃ acc, H2 D = some (.lst acc) ∧ acc.length = xs.length ∧ Bld R H0 D (upd H2 D (.lst (acc ++ [v]))) (xs ++ [x]) := by
  obtain ⟨vs, e, l, q⟩ := b.ex
  refine ⟨vs, s _ _ e, l, (b.same.trans s).put hD, _, upd_same, by simp [l], ?_⟩
  rw [off_upd]
  exact (LAt.snoc (R := R) (H := Off D H) (fun s h => hR _ _ _ _ s h) l q s.off h).2
theorem Bld.done {α : Type} {R : Hp → V → α → Prop} (hR : Mono R) {H0 H : Hp} {D : Addr} {xs : List α} (b : Bld R H0 D H xs) : LAt R H D xs := by
  obtain ⟨vs, e, l, q⟩ := b.ex
  exact ⟨vs, e, l, fun i v x h1 h2 => hR _ _ _ _ off_same (q i v x h1 h2)⟩
theorem take_snoc {α : Type} {l : List α} {i : Nat} {x : α} (h : l[i]? = some x) : l.take (i + 1) = l.take i ++ [x] := by
  rw [List.take_add_one, h]
  rfl
theorem LAt.turn {α : Type} {R : Hp → V → α → Prop} {H : Hp} {a : Addr} {xs : List α} (h : LAt R H a xs) {vs : List V} (hv : H a = some (.lst vs)) {i : Nat} {v : V} (e : vs[i]? = some v) : ∃ x, xs[i]? = some x ∧ R H v x := by
  obtain ⟨us, h1, h2, h3⟩ := h
  rw [hv] at h1
  cases h1
  have hi : i < xs.length := by rw [← h2]; exact (List.getElem?_eq_some_iff.mp e).1
  exact ⟨xs[i], List.getElem?_eq_getElem hi, h3 i v _ e (List.getElem?_eq_getElem hi)⟩
def SameBut (p : Addr) (H H' : Hp) : Prop := ∀ b x, b ≠ p → H b = some x → H' b = some x
section
variable {P : Program} {w : World} {K : PySem.W.Frag} {mg : Str → Option Value} {base : Heap} {C f : Addr} {fd : FuncData}
/-! ### is_way -/
abbrev sWay : Stmt := top 15
theorem scWay : FnScope ["thing", "many"] ["thing", "many"] (defScope sWay) := ⟨rfl, rfl, rfl, by decide +kernel, rfl, by decide +kernel, by decide +kernel⟩
def spWay : Sp := fun vs H Q _ => ∃ (v : V) (y : Way) (n : Nat), vs = [v, nn n] ∧ WayAt H v y ∧ SgT y.1 ∧ y.1.length ≤ 1000000 ∧ y.2 < n ∧ ∀ H', Same H H' → Q (.bl true) H'
theorem ok_way (F : FnP K "is_way" "is_way" sWay f fd) (T : Txt K mg C) (cW : Cal P w K mg base 1 "is_whole" spWhole []) (cT : Cal P w K mg base 1 "is_text" spText []) : FnOk P w K mg base CX0 2 f fd ["thing", "many"] spWay := by
  refine okD F scWay (fun vs H Q E h => ?_) (fun cdv A outer s H vs Q E hr h => ?_)
  · obtain ⟨y, ls, n, rfl, _⟩ := h
    rfl
  · obtain ⟨v, y, n, rfl, ⟨t, rfl, et⟩, hs, hl, hn, q⟩ := h
    refine ⟨_, pss_cons (ps_if (L2.PW.pt (pw_or (pt_not (pt_val (pe_callB call_isi (by rfl) T.isi (by decide +kernel) (pa_cons (pv 0) (pa_cons (pe_bltn (v := .ty "tuple") (by rfl) T.tuple (by decide +kernel) rfl) pa_nil)))))
        (pw_or (pt_cmpR op_ne (pe_callB call_len_seq (by rfl) T.len PySem.boot_len (pa_cons (pv 0) pa_nil)) pe_int (nomark _))
        (pw_or1 (pt_not (pt_val (ca cT hr (by decide) (by rfl) (pa_cons (pe_ix ix_tup (pv 0) pe_int (fun _ _ => rfl)) pa_nil)))))))) (pss_one ps_never) pss_nil)
      (pss_one (ps_ret (pe_and (ca cW hr (by decide) (by rfl) (pa_cons (pe_ix ix_tup (pv 0) pe_int (fun _ _ => rfl)) pa_nil)) (pe_one (pe_chain op_le op_lt pe_int (pe_ix ix_tup (pv 0) pe_int (fun _ _ => rfl)) (pv 1)))))), ?_⟩
    refine ⟨_, rfl, .ref t, .ty "tuple", _, _, true, rfl, .ty _, .base (.tup et), kit_ty (by decide +kernel), true, rfl, iteF ?_⟩
    refine ⟨_, rfl, t, _, rfl, .inr (SqT.of et), rfl, _, rfl, iteF ?_⟩
    refine ⟨_, rfl, t, _, 0, tx y.1, rfl, rfl, SqT.of et, rfl, y.1, rfl, hs, hl, fun H1 s1 => ⟨true, rfl, iteF ?_⟩⟩
    refine ⟨_, rfl, t, _, 1, nn y.2, rfl, rfl, SqT.of (s1 _ _ et), rfl, _, rfl, _, rfl, iteT ?_⟩
    refine ⟨_, rfl, t, _, 1, nn y.2, rfl, rfl, SqT.of (s1 _ _ et), rfl, _, _, rfl, rfl, _, rfl, ?_⟩
    rw [decide_eq_true (by omega : (0 : Int) ≤ (y.2 : Int))]
    refine iteT ⟨_, rfl, _, _, rfl, rfl, ?_⟩
    show Q (.bl (decide ((y.2 : Int) < (n : Int)))) H1
    rw [decide_eq_true (by omega : (y.2 : Int) < (n : Int))]
    exact q H1 s1
/-! ### is_room -/
abbrev sRoom : Stmt := top 16
theorem scRoom : FnScope ["thing", "letters", "many", "way"] ["thing", "letters", "many"] (defScope sRoom) := ⟨rfl, rfl, rfl, by decide +kernel, rfl, by decide +kernel, by decide +kernel⟩
def spRoom : Sp := fun vs H Q _ => ∃ (v : V) (r : Rm) (ls : Tx) (n : Nat), vs = [v, tx ls, nn n] ∧ RoomAt H v r ∧ ls.length ≤ 1000000 ∧ SgT r.1 ∧ r.1.length ≤ 1000000 ∧ r.2.length = ls.length ∧ (∀ y ∈ r.2, SgT y.1 ∧ y.1.length ≤ 1000000 ∧ y.2 < n) ∧ ∀ H', Same H H' → Q (.bl true) H'
theorem all_true (n : Nat) : (List.replicate n true).all id = true := by
  rw [List.all_eq_true]
  intro b hb
  exact List.eq_of_mem_replicate hb
theorem rep_bl (n : Nat) : List.replicate n (V.bl true) = (List.replicate n true).map V.bl := by rw [List.map_replicate]
theorem ok_room (F : FnP K "is_room" "is_room" sRoom f fd) (T : Txt K mg C) (cW : Cal P w K mg base 2 "is_way" spWay []) (cT : Cal P w K mg base 1 "is_text" spText []) : FnOk P w K mg base CX0 3 f fd ["thing", "letters", "many"] spRoom := by
  refine okD F scRoom (fun vs H Q E h => ?_) (fun cdv A outer s H vs Q E hr h => ?_)
  · obtain ⟨y, ls, n, _, rfl, _⟩ := h
    rfl
  · obtain ⟨v, r, ls, n, rfl, ⟨t, p, rfl, et, A1⟩, hls, hs, hl, hrl, hw, q⟩ := h
    refine ⟨_, pss_cons (ps_if (L2.PW.pt (pw_or (pt_not (pt_val (pe_callB call_isi (by rfl) T.isi (by decide +kernel) (pa_cons (pv 0) (pa_cons (pe_bltn (v := .ty "tuple") (by rfl) T.tuple (by decide +kernel) rfl) pa_nil)))))
        (pw_or (pt_cmpR op_ne (pe_callB call_len_seq (by rfl) T.len PySem.boot_len (pa_cons (pv 0) pa_nil)) pe_int (nomark _))
        (pw_or1 (pt_not (pt_val (ca cT hr (by decide) (by rfl) (pa_cons (pe_ix ix_tup (pv 0) pe_int (fun _ _ => rfl)) pa_nil)))))))) (pss_one ps_never) pss_nil)
      (pss_cons (ps_if (L2.PW.pt (pw_or (pt_not (pt_val (pe_callB call_isi (by rfl) T.isi (by decide +kernel) (pa_cons (pe_ix ix_tup (pv 0) pe_int (fun _ _ => rfl)) (pa_cons (pe_bltn (v := .ty "list") (by rfl) T.list (by decide +kernel) rfl) pa_nil)))))
        (pw_or1 (pt_cmpR op_ne (pe_callB call_len_seq (by rfl) T.len PySem.boot_len (pa_cons (pe_ix ix_tup (pv 0) pe_int (fun _ _ => rfl)) pa_nil)) (pe_callB call_len_str (by rfl) T.len PySem.boot_len (pa_cons (pv 1) pa_nil)) (nomark _))))) (pss_one ps_never) pss_nil)
      (pss_one (ps_ret (pe_callB (cr_all rfl) (by rfl) T.all (by decide +kernel) (pa_cons (pe_lc (own := [("way", 3)]) (g := gName 3) (tt := tYes) rfl scRoom.nd (pi_list (pe_ix ix_tup (pv 0) pe_int (fun _ _ => rfl))) (blkOk_by (N := ["thing", "letters", "many", "way"]) (sc := defScope sRoom) (by decide +kernel))
        (fun _ _ _ _ _ => pg_name (i := 3) scRoom.nd rfl (Or.inl rfl)) (fun _ _ _ _ _ => pts_nil) (fun _ _ _ _ _ => ca cW hr (by decide) (by rfl) (pa_cons (pv 3) (pa_cons (pv 2) pa_nil)))) pa_nil))))), ?_⟩
    refine ⟨_, rfl, .ref t, .ty "tuple", _, _, true, rfl, .ty _, .base (.tup et), kit_ty (by decide +kernel), true, rfl, iteF ?_⟩
    refine ⟨_, rfl, t, _, rfl, .inr (SqT.of et), rfl, _, rfl, iteF ?_⟩
    refine ⟨_, rfl, t, _, 0, tx r.1, rfl, rfl, SqT.of et, rfl, r.1, rfl, hs, hl, fun H1 s1 => ⟨true, rfl, iteF ?_⟩⟩
    have A2 := LAt.mono (R := WayAt) (fun a b => WayAt.mono a b) s1 A1
    obtain ⟨vs, ep, hv, hall⟩ := A2
    have et1 := s1 _ _ et
    refine ⟨_, rfl, t, _, 1, .ref p, rfl, rfl, SqT.of et1, rfl, _, .ty "list", _, _, true, rfl, .ty _, .base (.lst ep), kit_ty (by decide +kernel), true, rfl, iteF ?_⟩
    refine ⟨_, rfl, t, _, 1, .ref p, rfl, rfl, SqT.of et1, rfl, p, _, rfl, .inl (SqL.of ep), _, rfl, SS ls, rfl, by rw [ss_len]; exact line_ok (by omega), rfl, _, rfl, ?_⟩
    rw [decide_eq_true (by rw [ss_len, hv, hrl])]
    refine iteF ?_
    refine ⟨_, rfl, t, _, 1, .ref p, rfl, rfl, SqT.of et1, rfl, p, rfl, ⟨vs, SqL.of ep⟩, fun D hD => lc_it (walk_list (a := p) (xs := vs)) (fun i H2 => Same H1 H2 ∧ H2 D = some (.lst (List.replicate i (.bl true)))) ⟨same_upd hD, by rw [upd_same]; rfl⟩ (fun i H2 _ h => SqL.of (h.1 _ _ ep)) ?_ ?_⟩
    · rintro i x H2 H3 hi ⟨s2, e2⟩ ⟨rfl, ex⟩
      have hi' : i < r.2.length := by omega
      have hm := hw _ (List.getElem_mem hi')
      refine ⟨rfl, _, rfl, _, rfl, x, r.2[i], n, rfl, (hall i x _ ex (List.getElem?_eq_getElem hi')).mono s2, hm.1, hm.2.1, hm.2.2, fun H4 s4 => ⟨_, s4 _ _ e2, ?_, (s2.trans s4).put hD, ?_⟩⟩
      · rw [List.length_replicate]
        exact line_lt (by omega)
      · rw [upd_same, List.replicate_succ']
    · rintro H2 ⟨s2, e2⟩
      rw [rep_bl] at e2
      refine ⟨D, _, rfl, SqL.of e2, ?_⟩
      rw [all_true]
      exact q H2 (s1.trans s2)
end
end K70
namespace K70
open PySem PySem.Spec PyProof.Rows L2
def rListOf (K : PySem.W.Frag) : List V → Hp → VK → Prop := fun xs H Q => ∃ p ys, xs = [.ref p] ∧ (SqL K H p ys ∨ SqT K H p ys) ∧ ∀ l, H l = none → Q (.ref l) (upd H l (.lst ys))
def rLenS (K : PySem.W.Frag) : List V → Hp → VK → Prop := fun xs H Q => ∃ p ys, xs = [.ref p] ∧ (SqL K H p ys ∨ SqT K H p ys) ∧ Q (.int ys.length) H
theorem two_ok : 2 ≤ sizeLine := line_ok (by decide)
theorem WayAt.but {H H' : Hp} {p C dx : Addr} {fs : List (Str × V)} (s : SameBut p H H') (hp : H p = some (.ins C dx fs)) {v : V} {y : Way} (h : WayAt H v y) : WayAt H' v y := by
  obtain ⟨t, e, q⟩ := h
  exact ⟨t, e, s _ _ (ne_of q hp (by intro z; cases z)) q⟩
theorem RoomAt.but {H H' : Hp} {p C dx : Addr} {fs : List (Str × V)} (s : SameBut p H H') (hp : H p = some (.ins C dx fs)) {v : V} {r : Rm} (h : RoomAt H v r) : RoomAt H' v r := by
  obtain ⟨t, a, e, q, vs, e2, l, k⟩ := h
  exact ⟨t, a, e, s _ _ (ne_of q hp (by intro z; cases z)) q, vs, s _ _ (ne_of e2 hp (by intro z; cases z)) e2, l, fun i v x h1 h2 => (k i v x h1 h2).but s hp⟩
theorem RoomsAt.but {H H' : Hp} {p C dx : Addr} {fs : List (Str × V)} (s : SameBut p H H') (hp : H p = some (.ins C dx fs)) {l : Addr} {rs : List Rm} (h : RoomsAt H l rs) : RoomsAt H' l rs := by
  obtain ⟨vs, e, hl, k⟩ := h
  exact ⟨vs, s _ _ (ne_of e hp (by intro z; cases z)) e, hl, fun i v x h1 h2 => (k i v x h1 h2).but s hp⟩
theorem _root_.L2.Same.but {H H' : Hp} (s : Same H H') {p : Addr} : SameBut p H H' := fun b x _ e => s b x e
theorem SameBut.trans {p : Addr} {H H1 H2 : Hp} (s : SameBut p H H1) (t : SameBut p H1 H2) : SameBut p H H2 := fun b x n e => t b x n (s b x n e)
theorem SameBut.upd {p : Addr} {H : Hp} {o : HO} : SameBut p H (L2.upd H p o) := fun b x n e => by rw [upd_ne n]; exact e
theorem fld_put (a b c : V) : putF "begun" c (putF "made" b (putF "known" a [])) = [(("known" : Str), a), ("made", b), ("begun", c)] := rfl
/-- a room and a copy of its list -/
theorem room_copy {H0 H2 : Hp} {D p l t : Addr} {ws : List V} {r : Rm} {o : HO} (hD : H0 D = none) (s : Same H0 H2) (hd : H2 D = some o) (hl : ws.length = r.2.length) (k : ∀ (i : Nat) (v : V) (y : Way), ws[i]? = some v → r.2[i]? = some y → WayAt H0 v y)
    (h1 : H2 l = none) (h2 : upd H2 l (.lst ws) t = none) : Same H2 (upd (upd H2 l (.lst ws)) t (.tup [tx r.1, .ref l])) ∧ RoomAt (Off D (upd (upd H2 l (.lst ws)) t (.tup [tx r.1, .ref l]))) (.ref t) r := by
  have s1 : Same H2 (upd H2 l (.lst ws)) := same_upd h1
  have s2 : Same H2 (upd (upd H2 l (.lst ws)) t (.tup [tx r.1, .ref l])) := s1.up h2
  have nl : l ≠ D := fun z => by rw [z, hd] at h1; cases h1
  have nt : t ≠ D := fun z => by rw [z, s1 _ _ hd] at h2; cases h2
  have nlt : l ≠ t := fun z => by rw [← z, upd_same] at h2; cases h2
  refine ⟨s2, t, l, rfl, ?_, ws, ?_, hl, fun i v y e1 e2 => (k i v y e1 e2).mono ((s.trans s2).offN hD)⟩
  · rw [off_at nt, upd_same]
  · rw [off_at nl, upd_ne nlt, upd_same]
section
variable {P : Program} {w : World} {K : PySem.W.Frag} {mg : Str → Option Value} {base : Heap} {C f : Addr} {fd : FuncData}
/-! ### Machine.__init__ -/
abbrev sInit : Stmt := inClass (top 17) 0
abbrev nInit : List Str := ["self", "letters", "rooms", "first", "room", "end", "ways"]
theorem scInit : FnScope nInit ["self", "letters", "rooms", "first"] (defScope sInit) := ⟨rfl, rfl, rfl, by decide +kernel, rfl, by decide +kernel, by decide +kernel⟩
def spInit (C : Addr) : Sp := fun vs H Q _ => ∃ (p l dx B : Nat) (m : M), vs = [.ref p, tx m.letters, .ref l, tx m.first] ∧ MOk B m ∧ B ≤ 1000000 ∧ RoomsAt H l m.rooms ∧ H p = some (.ins C dx []) ∧ ∀ H', SameBut p H H' → MAt C H' p m → Q .non H'
theorem ok_init {dv : List V} (F : FunD K "__init__" "Machine.__init__" (defArgs sInit) (defBody sInit) (defScope sInit) dv [] f fd) (T : Txt K mg C) (cL : Cal P w K mg base 2 "want_letters" spWantL []) (cR : Cal P w K mg base 3 "is_room" spRoom []) (cT : Cal P w K mg base 1 "is_text" spText []) : FnOk P w K mg base CX0 4 f fd ["self", "letters", "rooms", "first"] (spInit C) := by
  refine okD F scInit (fun vs H Q E h => ?_) (fun cdv A outer s H vs Q E hr h => ?_)
  · obtain ⟨p, l, dx, B, m, rfl, _⟩ := h
    rfl
  · obtain ⟨p, l, dx, B, m, rfl, O, hB, A0, hp, q⟩ := h
    obtain ⟨tk, hmr⟩ := T.mr
    refine ⟨_, pss_cons (ps_expr (ca cL hr (by decide) (by rfl) (pa_cons (pv 1) pa_nil)))
      (pss_cons (ps_if (L2.PW.pt (pw_or (pt_not (pt_val (pe_callB call_isi (by rfl) T.isi (by decide +kernel) (pa_cons (pv 2) (pa_cons (pe_bltn (v := .ty "list") (by rfl) T.list (by decide +kernel) rfl) pa_nil)))))
        (pw_or1 (pt_not (pt_chain op_le op_le pe_int (pe_callB call_len_seq (by rfl) T.len PySem.boot_len (pa_cons (pv 2) pa_nil)) (pe_glob (v := .int 200) rfl hmr ⟨_, rfl⟩)))))) (pss_one ps_never) pss_nil)
      (pss_cons (ps_if (pt_not (pt_val (pe_callB (cr_all rfl) (by rfl) T.all (by decide +kernel) (pa_cons (pe_lc (own := [("room", 4)]) (g := gName 4) (tt := tYes) rfl scInit.nd (pi_list (pv 2)) (blkOk_by (N := nInit) (sc := defScope sInit) (by decide +kernel))
        (fun _ _ _ _ _ => pg_name (i := 4) scInit.nd rfl (Or.inl rfl)) (fun _ _ _ _ _ => pts_nil) (fun _ _ _ _ _ => ca cR hr (by decide) (by rfl) (pa_cons (pv 4) (pa_cons (pv 1) (pa_cons (pe_callB (r := rLenS K) call_len_seq (by rfl) T.len PySem.boot_len (pa_cons (pv 2) pa_nil)) pa_nil))))) pa_nil)))) (pss_one ps_never) pss_nil)
      (pss_cons (ps_if (pt_not (pt_val (ca cT hr (by decide) (by rfl) (pa_cons (pv 3) pa_nil)))) (pss_one ps_never) pss_nil)
      (pss_cons (ps_fld (pv 0) (pv 1) rfl)
      (pss_cons (ps_fld (pv 0) (pe_lc (own := [("end", 5), ("ways", 6)]) (g := gTup K 2 (gCons (gName 5) (gCons (gName 6) gNil))) (tt := tYes) rfl scInit.nd (pi_list (pv 2)) (blkOk_by (N := nInit) (sc := defScope sInit) (by decide +kernel))
        (fun _ _ _ _ _ => pg_tup rfl (pgs_cons (pg_name (i := 5) scInit.nd rfl (Or.inl rfl)) (pgs_cons (pg_name (i := 6) scInit.nd rfl (Or.inl rfl)) pgs_nil))) (fun _ _ _ _ _ => pts_nil)
        (fun _ _ _ _ _ => pe_tup (pa_cons (pv 5) (pa_cons (pe_callTy (T := "list") (r := rListOf K) call_list_of (by rfl) T.list (by decide +kernel) (pa_cons (pv 6) pa_nil)) pa_nil)))) rfl)
      (pss_one (ps_fld (pv 0) (pv 3) rfl))))))), ?_⟩
    refine ⟨_, rfl, m.letters, rfl, O.l, fun H1 s1 => ?_⟩
    have A1 := A0.mono s1
    obtain ⟨vs, e1, hv, k1⟩ := A1
    have hv2 : vs.length ≤ 200 := by rw [hv]; exact O.r.le
    have hv1 : 0 < vs.length := by rw [hv]; exact O.r.pos
    refine ⟨_, rfl, .ref l, .ty "list", _, _, true, rfl, .ty _, .base (.lst e1), kit_ty (by decide +kernel), true, rfl, iteF ?_⟩
    refine ⟨_, rfl, l, _, rfl, .inl (SqL.of e1), _, _, rfl, rfl, _, rfl, ?_⟩
    rw [decide_eq_true (by omega : (1 : Int) ≤ (vs.length : Int))]
    refine ⟨_, _, rfl, rfl, _, rfl, ?_⟩
    rw [decide_eq_true (by omega : (vs.length : Int) ≤ 200)]
    refine iteF ?_
    refine ⟨_, rfl, l, rfl, ⟨vs, SqL.of e1⟩, fun D hD => lc_it (walk_list (a := l) (xs := vs)) (fun i H2 => Same H1 H2 ∧ H2 D = some (.lst (List.replicate i (.bl true)))) ⟨same_upd hD, by rw [upd_same]; rfl⟩ (fun i H2 _ h => SqL.of (h.1 _ _ e1)) ?_ ?_⟩
    · rintro i x H2 H3 hi ⟨s2, e2⟩ ⟨rfl, ex⟩
      have hi' : i < m.rooms.length := by omega
      have hm := O.r.room _ (List.getElem_mem hi')
      refine ⟨rfl, _, rfl, _, rfl, _, rfl, l, _, rfl, .inl (SqL.of (s2 _ _ e1)), x, m.rooms[i], m.letters, vs.length, rfl, (k1 i x _ ex (List.getElem?_eq_getElem hi')).mono s2, by have := O.l.le; omega, hm.1, by have := hm.2.1; omega, hm.2.2.1, fun y hy => ⟨(hm.2.2.2 y hy).1, by have := (hm.2.2.2 y hy).2.1; omega, by rw [hv]; exact (hm.2.2.2 y hy).2.2⟩, fun H4 s4 => ⟨_, s4 _ _ e2, ?_, (s2.trans s4).put hD, ?_⟩⟩
      · rw [List.length_replicate]
        exact line_lt (by omega)
      · rw [upd_same, List.replicate_succ']
    rintro H2 ⟨s2, e2⟩
    rw [rep_bl] at e2
    refine ⟨D, _, rfl, SqL.of e2, ?_⟩
    rw [all_true]
    refine ⟨true, rfl, iteF ⟨_, rfl, m.first, rfl, O.f, by have := O.fl; omega, fun H3 s3 => ⟨true, rfl, iteF ?_⟩⟩⟩
    have s13 : Same H H3 := s1.trans (s2.trans s3)
    have hp3 := s13 _ _ hp
    have A3 : RoomsAt H3 l m.rooms := A0.mono s13
    refine ⟨_, rfl, _, rfl, p, C, dx, _, rfl, hp3, T.cl, T.nK, by decide, ?_⟩
    have A4 := A3.but (SameBut.upd (o := .ins C dx (putF "known" (tx m.letters) []))) hp3
    have b4 : SameBut p H (upd H3 p (.ins C dx (putF "known" (tx m.letters) []))) := s13.but.trans SameBut.upd
    have hp4 : (upd H3 p (.ins C dx (putF "known" (tx m.letters) []))) p = some (.ins C dx (putF "known" (tx m.letters) [])) := upd_same
    revert A4 b4 hp4
    generalize upd H3 p (.ins C dx (putF "known" (tx m.letters) [])) = H4
    intro A4 b4 hp4
    obtain ⟨ws, e4, hw, k4⟩ := A4
    refine ⟨_, rfl, l, rfl, ⟨ws, SqL.of e4⟩, fun D2 hD2 => lc_it (walk_list (a := l) (xs := ws)) (fun i H5 => Bld RoomAt H4 D2 H5 (m.rooms.take i)) (Bld.start hD2) (fun i H5 _ h => SqL.of (h.same _ _ e4)) ?_ ?_⟩
    · rintro i x H5 H6 hi b5 ⟨rfl, ex⟩
      have hi' : i < m.rooms.length := by omega
      obtain ⟨t, a, rfl, et, us, eu, hu, ku⟩ := k4 i x _ ex (List.getElem?_eq_getElem hi')
      refine ⟨t, _, rfl, SqT.of (b5.same _ _ et), rfl, _, _, rfl, _, _, rfl, rfl, rfl, _, rfl, _, rfl, a, us, rfl, .inl (SqL.of (b5.same _ _ eu)), fun l2 hl2 => ⟨two_ok, fun t2 ht2 => ?_⟩⟩
      obtain ⟨vs5, ev5, _, _⟩ := b5.ex
      obtain ⟨sc, rc⟩ := room_copy (p := a) hD2 b5.same ev5 hu ku hl2 ht2
      obtain ⟨acc, ea, la, b6⟩ := b5.snoc mono_room hD2 sc rc
      refine ⟨acc, ea, line_lt (by rw [la, List.length_take]; have := O.r.le; omega), ?_⟩
      rw [take_snoc (List.getElem?_eq_getElem hi')]
      exact b6
    · rintro H5 b5
      have hp5 := b5.same _ _ hp4
      have A5 : RoomsAt H5 D2 m.rooms := by
        have A5 := b5.done mono_room
        rw [hw, List.take_length] at A5
        exact A5
      refine ⟨_, rfl, p, C, dx, _, rfl, hp5, T.cl, T.nM, by show (1 : Nat) < 1000; decide, ?_⟩
      refine ⟨_, rfl, _, rfl, p, C, dx, _, rfl, upd_same, T.cl, T.nB, by show (2 : Nat) < 1000; decide, ?_⟩
      refine q _ (((b4.trans b5.same.but).trans SameBut.upd).trans SameBut.upd) ⟨dx, D2, ?_, ?_⟩
      · rw [upd_same, fld_put]
        rfl
      · exact (A5.but SameBut.upd hp5).but SameBut.upd upd_same
end
end K70
namespace K70
open PySem PySem.Spec PyProof.Rows L2
theorem index_sign {ls : Tx} {c k : Nat} (L : LOk ls) (hc : c ∈ ls) (h : Txt.index0 (SS ls) ⟨#[c]⟩ = some k) : k = ls.idxOf c := by
  unfold Txt.index0 at h
  rcases PySem.StrLaws.occ_head (SS ls) ⟨#[c]⟩ 1 (Nat.le_refl 1) with ⟨h0, _⟩ | ⟨i, r, h0, hi, _⟩
  · rw [h0] at h
    cases h
  · rw [h0] at h
    cases h
    have h1 := (PySem.StrLaws.subAt_one (SS ls) c k).mp hi
    rw [ss_cps] at h1
    obtain ⟨hl, e⟩ := List.getElem?_eq_some_iff.mp h1
    rw [← e]
    exact (List.Nodup.idxOf_getElem L.nd k hl).symm
theorem index_some {ls : Tx} {c : Nat} (hc : c ∈ ls) (h : Txt.index0 (SS ls) ⟨#[c]⟩ = none) : False := by
  unfold Txt.index0 at h
  have h1 := PySem.StrLaws.found_one (SS ls) c
  rw [ss_cps, decide_eq_true hc] at h1
  rw [List.head?_eq_none_iff] at h
  rw [h] at h1
  cases h1
def WF : WX := fun _ _ _ _ => False
theorem takes_no {X : Cx} : Takes X WF := fun u s' ⟨a, B, sI, pins, σ, H, cls, d, e, I, nb, up, sky, na, os, ag, w⟩ => w.elim
theorem RoomsAt.room {H : Hp} {l : Addr} {rs : List Rm} (A : RoomsAt H l rs) {k : Nat} (hk : k < rs.length) : ∃ vs t p ws, H l = some (.lst vs) ∧ vs.length = rs.length ∧ vs[k]? = some (.ref t) ∧ H t = some (.tup [tx (endAt rs k), .ref p]) ∧ H p = some (.lst ws) ∧ ws.length = (waysAt rs k).length ∧
    ∀ (i : Nat) (v : V) (y : Way), ws[i]? = some v → (waysAt rs k)[i]? = some y → WayAt H v y := by
  obtain ⟨vs, v, e1, hl, e2, t, p, rfl, e3, ws, e4, l4, k4⟩ := LAt.get A (List.getElem?_eq_getElem hk)
  have h1 : rs.getD k ([], []) = rs[k] := getD_of (List.getElem?_eq_getElem hk)
  refine ⟨vs, t, p, ws, e1, hl, e2, ?_, e4, ?_, ?_⟩
  · unfold endAt; rw [h1]; exact e3
  · unfold waysAt; rw [h1]; exact l4
  · unfold waysAt; rw [h1]; exact k4
theorem RoomsAt.way {H : Hp} {l : Addr} {ls : Tx} {B : Nat} {rs : List Rm} (A : RoomsAt H l rs) (R : ROk ls B rs) {k c : Nat} (hk : k < rs.length) (hc : c ∈ ls) : ∃ vs t p ws u, H l = some (.lst vs) ∧ vs[k]? = some (.ref t) ∧ H t = some (.tup [tx (endAt rs k), .ref p]) ∧ H p = some (.lst ws) ∧
    ws[ls.idxOf c]? = some (.ref u) ∧ H u = some (.tup [tx (wayAt ls rs k c).1, nn (wayAt ls rs k c).2]) := by
  obtain ⟨vs, t, p, ws, e1, _, e2, e3, e4, l4, k4⟩ := A.room hk
  have hi : ls.idxOf c < (waysAt rs k).length := by rw [(R.room_at hk).2.2.1]; exact List.idxOf_lt_length_iff.mpr hc
  have hi2 : ls.idxOf c < ws.length := by omega
  obtain ⟨u, e5, e6⟩ := k4 _ _ _ (List.getElem?_eq_getElem hi2) (List.getElem?_eq_getElem hi)
  refine ⟨vs, t, p, ws, u, e1, e2, e3, e4, by rw [List.getElem?_eq_getElem hi2, e5], ?_⟩
  have h2 : wayAt ls rs k c = (waysAt rs k)[ls.idxOf c] := getD_of (List.getElem?_eq_getElem hi)
  rw [h2]
  exact e6
theorem walk_snoc (ls : Tx) (rs : List Rm) (k : Nat) (y : Tx) (c : Nat) : walkF ls rs k (y ++ [c]) = ((walkF ls rs k y).1 ++ (wayAt ls rs (walkF ls rs k y).2 c).1, (wayAt ls rs (walkF ls rs k y).2 c).2) := by
  rw [walkF_app]
  simp [walkF]
section
variable {P : Program} {w : World} {K : PySem.W.Frag} {mg : Str → Option Value} {base : Heap} {C f : Addr} {fd : FuncData}
/-! ### letters, first -/
abbrev sLets : Stmt := inClass (top 17) 5
theorem scLets : FnScope ["self"] ["self"] (defScope sLets) := ⟨rfl, rfl, rfl, by decide +kernel, rfl, by decide +kernel, by decide +kernel⟩
def spLets (C : Addr) : Sp := fun vs H Q _ => ∃ (p : Addr) (m : M), vs = [.ref p] ∧ MAt C H p m ∧ Q (tx m.letters) H
theorem ok_lets (F : FnP K "letters" "Machine.letters" sLets f fd) (T : Txt K mg C) : FnOk P w K mg base CX0 1 f fd ["self"] (spLets C) := by
  refine okD F scLets (fun vs H Q E h => ?_) (fun cdv A outer s H vs Q E hr h => ?_)
  · obtain ⟨p, m, rfl, _⟩ := h
    rfl
  · obtain ⟨p, m, rfl, ⟨dx, l, e, _⟩, q⟩ := h
    refine ⟨_, pss_one (ps_ret (pe_fld (pv 0) rfl)), ?_⟩
    exact ⟨_, rfl, p, C, dx, _, _, rfl, e, T.cl, T.nK, f_known m l, q⟩
abbrev sFirst : Stmt := inClass (top 17) 7
theorem scFirst : FnScope ["self"] ["self"] (defScope sFirst) := ⟨rfl, rfl, rfl, by decide +kernel, rfl, by decide +kernel, by decide +kernel⟩
def spFirst (C : Addr) : Sp := fun vs H Q _ => ∃ (p : Addr) (m : M), vs = [.ref p] ∧ MAt C H p m ∧ Q (tx m.first) H
theorem ok_first (F : FnP K "first" "Machine.first" sFirst f fd) (T : Txt K mg C) : FnOk P w K mg base CX0 1 f fd ["self"] (spFirst C) := by
  refine okD F scFirst (fun vs H Q E h => ?_) (fun cdv A outer s H vs Q E hr h => ?_)
  · obtain ⟨p, m, rfl, _⟩ := h
    rfl
  · obtain ⟨p, m, rfl, ⟨dx, l, e, _⟩, q⟩ := h
    refine ⟨_, pss_one (ps_ret (pe_fld (pv 0) rfl)), ?_⟩
    exact ⟨_, rfl, p, C, dx, _, _, rfl, e, T.cl, T.nB, f_begun m l, q⟩
/-! ### rooms -/
abbrev sRooms : Stmt := inClass (top 17) 6
theorem scRooms : FnScope ["self", "end", "ways"] ["self"] (defScope sRooms) := ⟨rfl, rfl, rfl, by decide +kernel, rfl, by decide +kernel, by decide +kernel⟩
def spRooms (C : Addr) : Sp := fun vs H Q _ => ∃ (p : Addr) (m : M), vs = [.ref p] ∧ MAt C H p m ∧ m.rooms.length ≤ 200 ∧ ∀ D H', Same H H' → H D = none → RoomsAt H' D m.rooms → Q (.ref D) H'
theorem ok_rooms (F : FnP K "rooms" "Machine.rooms" sRooms f fd) (T : Txt K mg C) : FnOk P w K mg base CX0 1 f fd ["self"] (spRooms C) := by
  refine okD F scRooms (fun vs H Q E h => ?_) (fun cdv A outer s H vs Q E hr h => ?_)
  · obtain ⟨p, m, rfl, _⟩ := h
    rfl
  · obtain ⟨p, m, rfl, ⟨dx, l, e, A4⟩, hn, q⟩ := h
    refine ⟨_, pss_one (ps_ret (pe_lc (own := [("end", 1), ("ways", 2)]) (g := gTup K 2 (gCons (gName 1) (gCons (gName 2) gNil))) (tt := tYes) rfl scRooms.nd (pi_list (pe_fld (pv 0) rfl)) (blkOk_by (N := ["self", "end", "ways"]) (sc := defScope sRooms) (by decide +kernel))
        (fun _ _ _ _ _ => pg_tup rfl (pgs_cons (pg_name (i := 1) scRooms.nd rfl (Or.inl rfl)) (pgs_cons (pg_name (i := 2) scRooms.nd rfl (Or.inl rfl)) pgs_nil))) (fun _ _ _ _ _ => pts_nil)
        (fun _ _ _ _ _ => pe_tup (pa_cons (pv 1) (pa_cons (pe_callTy (T := "list") (r := rListOf K) call_list_of (by rfl) T.list (by decide +kernel) (pa_cons (pv 2) pa_nil)) pa_nil))))), ?_⟩
    obtain ⟨ws, e4, hw, k4⟩ := A4
    refine ⟨_, rfl, p, C, dx, _, _, rfl, e, T.cl, T.nM, f_made m l, l, rfl, ⟨ws, SqL.of e4⟩, fun D2 hD2 => lc_it (walk_list (a := l) (xs := ws)) (fun i H5 => Bld RoomAt H D2 H5 (m.rooms.take i)) (Bld.start hD2) (fun i H5 _ h => SqL.of (h.same _ _ e4)) ?_ ?_⟩
    · rintro i x H5 H6 hi b5 ⟨rfl, ex⟩
      have hi' : i < m.rooms.length := by omega
      obtain ⟨t, a, rfl, et, us, eu, hu, ku⟩ := k4 i x _ ex (List.getElem?_eq_getElem hi')
      refine ⟨t, _, rfl, SqT.of (b5.same _ _ et), rfl, _, _, rfl, _, _, rfl, rfl, rfl, _, rfl, _, rfl, a, us, rfl, .inl (SqL.of (b5.same _ _ eu)), fun l2 hl2 => ⟨two_ok, fun t2 ht2 => ?_⟩⟩
      obtain ⟨vs5, ev5, _, _⟩ := b5.ex
      obtain ⟨sc, rc⟩ := room_copy (p := a) hD2 b5.same ev5 hu ku hl2 ht2
      obtain ⟨acc, ea, la, b6⟩ := b5.snoc mono_room hD2 sc rc
      refine ⟨acc, ea, line_lt (by rw [la, List.length_take]; omega), ?_⟩
      rw [take_snoc (List.getElem?_eq_getElem hi')]
      exact b6
    · rintro H5 b5
      have A5 : RoomsAt H5 D2 m.rooms := by
        have A5 := b5.done mono_room
        rw [hw, List.take_length] at A5
        exact A5
      exact q D2 H5 b5.same hD2 A5
/-! ### walked -/
abbrev sWalk : Stmt := top 18
abbrev nWalk : List Str := ["machine", "room", "word", "text", "sign", "put"]
theorem scWalk : FnScope nWalk ["machine", "room", "word"] (defScope sWalk) := ⟨rfl, rfl, rfl, by decide +kernel, rfl, by decide +kernel, by decide +kernel⟩
def spWalk (C : Addr) : Sp := fun vs H Q _ => ∃ (p k B : Nat) (y : Tx) (m : M), vs = [.ref p, nn k, tx y] ∧ MAt C H p m ∧ MOk B m ∧ k < m.rooms.length ∧ Wd m.letters y ∧ B * y.length ≤ 4000000 ∧
  ∀ t H', Same H H' → H' t = some (.tup [tx (walkF m.letters m.rooms k y).1, nn (walkF m.letters m.rooms k y).2]) → Q (.ref t) H'
theorem ok_walk (F : FnP K "walked" "walked" sWalk f fd) (T : Txt K mg C) : FnOk P w K mg base CX0 1 f fd ["machine", "room", "word"] (spWalk C) := by
  refine okD F scWalk (fun vs H Q E h => ?_) (fun cdv A outer s H vs Q E hr h => ?_)
  · obtain ⟨p, k, B, y, m, rfl, _⟩ := h
    rfl
  · obtain ⟨p, k, B, y, m, rfl, ⟨dx, l, e, A0⟩, O, hk, W, hB, q⟩ := h
    refine ⟨_, pss_cons (ps_set (i := 3) scWalk.nd rfl (.inl rfl) pe_str)
      (pss_cons (ps_for PassesOwn.never rfl (pi_str (pv 2)) (pg_name (i := 4) scWalk.nd rfl (.inl rfl))
        (pss_cons (ps_asg (pe_ix ix_list (pe_ix ix_tup (pe_ix ix_list (pe_fld (pv 0) rfl) (pv 1) (fun _ _ => rfl)) pe_int (fun _ _ => rfl)) (pe_bmS PySem.F.plainAttrs_str PySem.F.slot_str_index PySem.F.type_str_index (mt_indexX rfl (takes_no)) (pe_fld (pv 0) rfl) (pa_cons (pv 4) pa_nil)) (fun _ _ => rfl))
          (pg_tup rfl (pgs_cons (pg_name (i := 5) scWalk.nd rfl (.inl rfl)) (pgs_cons (pg_name (i := 1) scWalk.nd rfl (.inl rfl)) pgs_nil))))
        (pss_one (ps_aug (i := 3) scWalk.nd rfl (.inl rfl) (pv 5) ip_addS))))
      (pss_one (ps_ret (pe_tup (pa_cons (pv 3) (pa_cons (pv 1) pa_nil)))))), ?_⟩
    refine ⟨_, rfl, SS y, rfl, for_it walk_str (fun i σ H1 => Same H H1 ∧ ∃ a b, σ = [some (.ref p), some (nn (walkF m.letters m.rooms k (y.take i)).2), some (tx y), some (tx (walkF m.letters m.rooms k (y.take i)).1), a, b]) ⟨Same.refl _, none, none, rfl⟩ (fun _ _ _ _ _ => trivial) ?_ ?_⟩
    · rintro i x σ H1 H2 hi ⟨s1, a, b, rfl⟩ ⟨rfl, c, ec, rfl⟩
      have ec' : y[i]? = some c := by simpa using ec
      have hc : c ∈ m.letters := W c (List.mem_of_getElem? ec')
      have hk' := O.r.walk_lt (y.take i) k hk (W.take i)
      obtain ⟨vs, t, p2, ws, u, e1, e2, e3, e4, e5, e6⟩ := (A0.mono s1).way O.r hk' hc
      have em := s1 _ _ e
      refine ⟨_, rfl, p, C, dx, _, _, rfl, em, T.cl, T.nM, f_made m l, _, rfl, l, vs, _, _, rfl, rfl, SqL.of e1, atI_nat e2, t, _, 1, .ref p2, rfl, rfl, SqT.of e3, rfl, ?_⟩
      refine ⟨_, rfl, p, C, dx, _, _, rfl, em, T.cl, T.nK, f_known m l, rfl, _, rfl, SS m.letters, ⟨#[c]⟩, rfl, rfl, ?_, fun z => (index_some hc z).elim⟩
      intro j hj
      rw [index_sign O.l hc hj]
      refine ⟨p2, ws, _, .ref u, rfl, rfl, SqL.of e4, atI_nat e5, u, _, rfl, SqT.of e6, rfl, _, _, rfl, _, _, rfl, rfl, ?_⟩
      refine ⟨_, rfl, _, rfl, _, _, rfl, rfl, ?_, s1, some (sgn c), some (tx (wayAt m.letters m.rooms (walkF m.letters m.rooms k (y.take i)).2 c).1), ?_⟩
      · rw [ss_len, ss_len]
        have h1 := O.r.walk_len (y.take i) k hk (W.take i)
        have h2 := O.r.way_len hk' hc
        have h3 : B * (y.take i).length ≤ B * y.length := Nat.mul_le_mul_left B (by rw [List.length_take]; omega)
        have h4 : B ≤ B * y.length := by
          have : 1 ≤ y.length := by have := (List.getElem?_eq_some_iff.mp ec').1; omega
          calc B = B * 1 := (Nat.mul_one B).symm
            _ ≤ _ := Nat.mul_le_mul_left B this
        exact line_ok (by omega)
      · rw [take_snoc ec', walk_snoc, ss_app]
        rfl
    · rintro σ H1 ⟨s1, a, b, rfl⟩
      have hy : y.take (SS y).cps.size = y := by
        have : (SS y).cps.size = y.length := by simp
        rw [this, List.take_length]
      rw [hy]
      exact ⟨_, rfl, _, rfl, two_ok, fun t ht => q t _ (s1.up ht) upd_same⟩
end
end K70
namespace K70
open PySem PySem.Spec PyProof.Rows L2
def gApp : List V → List V → List V := fun a b => a ++ b
def gRev : List V → List V → List V := fun _ b => b.reverse
section
variable {P : Program} {w : World} {K : PySem.W.Frag} {mg : Str → Option Value} {base : Heap} {C f : Addr} {fd : FuncData}
/-! ### told -/
abbrev sTold : Stmt := inClass (top 17) 8
abbrev nTold : List Str := ["self", "word", "found", "room"]
theorem scTold : FnScope nTold ["self", "word"] (defScope sTold) := ⟨rfl, rfl, rfl, by decide +kernel, rfl, by decide +kernel, by decide +kernel⟩
def spTold (C : Addr) : Sp := fun vs H Q _ => ∃ (p B : Nat) (y : Tx) (m : M), vs = [.ref p, tx y] ∧ MAt C H p m ∧ MOk B m ∧ B ≤ 1000000 ∧ Wd m.letters y ∧ B * y.length ≤ 4000000 ∧
  ∀ t H', Same H H' → H' t = some (.tup [tx (m.first ++ (walkF m.letters m.rooms 0 y).1), nn (m.room y)]) → Q (.ref t) H'
theorem ok_told (F : FnP K "told" "Machine.told" sTold f fd) (T : Txt K mg C) (cW : CalK P w K mg base 3 "want_word" 1 ["letters"] spWantW gApp) (cK : Cal P w K mg base 1 "walked" (spWalk C) []) : FnOk P w K mg base CX0 4 f fd ["self", "word"] (spTold C) := by
  refine okD F scTold (fun vs H Q E h => ?_) (fun cdv A outer s H vs Q E hr h => ?_)
  · obtain ⟨p, B, y, m, rfl, _⟩ := h
    rfl
  · obtain ⟨p, B, y, m, rfl, Mt, O, hB0, W, hB, q⟩ := h
    refine ⟨_, pss_cons (ps_expr (caK cW hr (by decide) (by rfl) (pa_cons (pv 1) pa_nil) (pk_cons (pe_fld (pv 0) rfl) pk_nil)))
      (pss_cons (ps_asg (ca cK hr (by decide) (by rfl) (pa_cons (pv 0) (pa_cons pe_int (pa_cons (pv 1) pa_nil)))) (pg_tup rfl (pgs_cons (pg_name (i := 2) scTold.nd rfl (.inl rfl)) (pgs_cons (pg_name (i := 3) scTold.nd rfl (.inl rfl)) pgs_nil))))
      (pss_one (ps_ret (pe_tup (pa_cons (pe_op op_add_str (pe_fld (pv 0) rfl) (pv 2)) (pa_cons (pv 3) pa_nil)))))), ?_⟩
    obtain ⟨dx, l, e, A0⟩ := id Mt
    refine ⟨_, rfl, _, rfl, p, C, dx, _, _, rfl, e, T.cl, T.nK, f_known m l, rfl, rfl, y, m.letters, rfl, O.l, W, fun H1 s1 => ?_⟩
    refine ⟨_, rfl, _, rfl, p, 0, B, y, m, rfl, Mt.mono s1, O, O.r.pos, W, hB, fun t H2 s2 et => ?_⟩
    refine ⟨t, _, rfl, SqT.of et, rfl, _, _, rfl, _, _, rfl, rfl, ?_⟩
    refine ⟨_, rfl, p, C, dx, _, _, rfl, s2 _ _ (s1 _ _ e), T.cl, T.nB, f_begun m l, _, rfl, _, _, rfl, rfl, ?_, _, rfl, two_ok, fun t3 ht3 => q t3 _ ((s1.trans s2).up ht3) ?_⟩
    · rw [ss_len, ss_len]
      have h1 := O.r.walk_len y 0 O.r.pos W
      have h2 := O.fl
      exact line_ok (by omega)
    · rw [upd_same, ss_app]
      rfl
/-! ### row -/
abbrev sRow : Stmt := inClass (top 17) 9
abbrev nRow : List Str := ["self", "word", "text", "room"]
theorem scRow : FnScope nRow ["self", "word"] (defScope sRow) := ⟨rfl, rfl, rfl, by decide +kernel, rfl, by decide +kernel, by decide +kernel⟩
def spRow (C : Addr) : Sp := fun vs H Q _ => ∃ (p B : Nat) (y : Tx) (m : M), vs = [.ref p, tx y] ∧ MAt C H p m ∧ MOk B m ∧ B ≤ 1000000 ∧ Wd m.letters y ∧ B * y.length ≤ 4000000 ∧ ∀ H', Same H H' → Q (tx (m.row y)) H'
theorem ok_row (F : FnP K "row" "Machine.row" sRow f fd) (T : Txt K mg C) (cT : Met P w K mg base 4 C "told" (spTold C)) : FnOk P w K mg base CX0 5 f fd ["self", "word"] (spRow C) := by
  refine okD F scRow (fun vs H Q E h => ?_) (fun cdv A outer s H vs Q E hr h => ?_)
  · obtain ⟨p, B, y, m, rfl, _⟩ := h
    rfl
  · obtain ⟨p, B, y, m, rfl, Mt, O, hB0, W, hB, q⟩ := h
    refine ⟨_, pss_cons (ps_asg (mt cT hr (by decide) (pv 0) (pa_cons (pv 1) pa_nil)) (pg_tup rfl (pgs_cons (pg_name (i := 2) scRow.nd rfl (.inl rfl)) (pgs_cons (pg_name (i := 3) scRow.nd rfl (.inl rfl)) pgs_nil))))
      (pss_one (ps_ret (pe_op op_add_str (pv 2) (pe_ix ix_tup (pe_ix ix_list (pe_fld (pv 0) rfl) (pv 3) (fun _ _ => rfl)) pe_int (fun _ _ => rfl))))), ?_⟩
    obtain ⟨dx, l, e, A0⟩ := id Mt
    refine ⟨_, rfl, p, dx, _, rfl, e, f_none m l, _, rfl, p, B, y, m, rfl, Mt, O, hB0, W, hB, fun t H1 s1 et => ?_⟩
    refine ⟨t, _, rfl, SqT.of et, rfl, _, _, rfl, _, _, rfl, rfl, ?_⟩
    have hk := O.r.walk_lt y 0 O.r.pos W
    obtain ⟨vs, t2, p2, ws, e1, hl, e2, e3, _⟩ := (A0.mono s1).room hk
    refine ⟨_, rfl, _, rfl, p, C, dx, _, _, rfl, s1 _ _ e, T.cl, T.nM, f_made m l, _, rfl, l, vs, _, _, rfl, rfl, SqL.of e1, atI_nat e2, t2, _, 0, _, rfl, rfl, SqT.of e3, rfl, _, _, rfl, rfl, ?_, ?_⟩
    · rw [ss_len, ss_len, List.length_append]
      have h1 := O.r.walk_len y 0 O.r.pos W
      have h2 := O.fl
      have h3 := (O.r.room_at hk).2.1
      exact line_ok (by omega)
    · rw [ss_app, List.append_assoc]
      exact q H1 s1
/-! ### rests -/
abbrev sRests : Stmt := top 27
theorem scRests : FnScope ["one", "other", "many"] ["one", "other"] (defScope sRests) := ⟨rfl, rfl, rfl, by decide +kernel, rfl, by decide +kernel, by decide +kernel⟩
def spRests : Sp := fun vs H Q _ => ∃ a b : Tx, vs = [tx a, tx b] ∧ a.length ≤ 2000000 ∧ b.length ≤ 2000000 ∧ ∀ t H', Same H H' → H' t = some (.tup [tx (rests a b).1, tx (rests a b).2]) → Q (.ref t) H'
theorem ok_rests (F : FnP K "rests" "rests" sRests f fd) (T : Txt K mg C) (cC : Cal P w K mg base 1 "common_start" spComm []) : FnOk P w K mg base CX0 2 f fd ["one", "other"] spRests := by
  refine okD F scRests (fun vs H Q E h => ?_) (fun cdv A outer s H vs Q E hr h => ?_)
  · obtain ⟨y, ls, rfl, _⟩ := h
    rfl
  · obtain ⟨a, b, rfl, la, lb, q⟩ := h
    refine ⟨_, pss_cons (ps_set (i := 2) scRests.nd rfl (.inl rfl) (pe_callB call_len_str (by rfl) T.len PySem.boot_len (pa_cons (ca cC hr (by decide) (by rfl) (pa_cons (pv 0) (pa_cons (pv 1) pa_nil))) pa_nil)))
      (pss_one (ps_ret (pe_tup (pa_cons (pe_slice sl_str (pv 0) (po_some (pv 2)) po_none) (pa_cons (pe_slice sl_str (pv 1) (po_some (pv 2)) po_none) pa_nil))))), ?_⟩
    have za : (SS a).length ≤ sizeLine := by rw [ss_len]; exact line_ok (by omega)
    have zb : (SS b).length ≤ sizeLine := by rw [ss_len]; exact line_ok (by omega)
    have l1 : (lcp a b).length ≤ a.length := (lcp_left a b).length_le
    refine ⟨_, rfl, _, rfl, a, b, rfl, la, lb, SS (lcp a b), rfl, by rw [ss_len]; exact line_ok (by omega), ?_⟩
    refine ⟨_, rfl, _, rfl, _, rfl, SS a, rfl, za, _, rfl, _, rfl, _, rfl, SS b, rfl, zb, two_ok, fun t ht => q t _ (same_upd ht) ?_⟩
    rw [upd_same, ss_len, cut_from, cut_from]
    rfl
end
end K70
namespace K70
open PySem PySem.Spec PyProof.Rows L2
theorem map_at {α : Type} {g : α → V} {s : List α} {d : α} {k : Nat} (h : k < s.length) : (s.map g)[k]? = some (g (s.getD k d)) := by
  rw [List.getElem?_map, List.getD_eq_getElem?_getD, List.getElem?_eq_getElem h]
  rfl
theorem ixN_nat {n k : Nat} (h : k < n) : ixN n (k : Int) = some k := by
  unfold ixN
  rw [if_pos (by omega), if_pos (by omega), Int.toNat_natCast]
theorem ends_at {rs : List Rm} {i : Nat} (h : i < rs.length) : rs[i] = (endAt rs i, waysAt rs i) := by
  have h1 : rs.getD i ([], []) = rs[i] := getD_of (List.getElem?_eq_getElem h)
  unfold endAt waysAt
  rw [h1]
section
variable {P : Program} {w : World} {K : PySem.W.Frag} {mg : Str → Option Value} {base : Heap} {C f : Addr} {fd : FuncData}
abbrev sSures : Stmt := top 20
abbrev nSures : List Str := ["rooms", "sures", "shorter", "k", "sure", "text", "there", "end", "ways"]
theorem scSures : FnScope nSures ["rooms"] (defScope sSures) := ⟨rfl, rfl, rfl, by decide +kernel, rfl, by decide +kernel, by decide +kernel⟩
def spSures : Sp := fun vs H Q _ => ∃ (a B : Nat) (ls : Tx) (rs : List Rm), vs = [.ref a] ∧ RoomsAt H a rs ∧ LOk ls ∧ ROk ls B rs ∧ B ≤ 500000 ∧ ∀ D s H', Same H H' → H D = none → H' D = some (.lst (s.map tx)) → Sures ls rs s → Q (.ref D) H'
theorem ok_sures (F : FnP K "sures_of" "sures_of" sSures f fd) (T : Txt K mg C) (cC : Cal P w K mg base 1 "common_start" spComm []) : FnOk P w K mg base CX0 2 f fd ["rooms"] spSures := by
  refine okD F scSures (fun vs H Q E h => ?_) (fun cdv A outer s H vs Q E hr h => ?_)
  · obtain ⟨y, B, ls, rs, rfl, _⟩ := h
    rfl
  · obtain ⟨a, B, ls, rs, rfl, A0, L, R, hB, q⟩ := h
    refine ⟨_, pss_cons (ps_setLc (i := 1) (own := [("end", 7), ("ways", 8)]) (g := gTup K 2 (gCons (gName 7) (gCons (gName 8) gNil))) (tt := tYes) rfl scSures.nd rfl rfl (sw_true rfl rfl rfl (by decide +kernel)) (pi_list (pv 0)) (blkOk_by (N := nSures) (sc := defScope sSures) (by decide +kernel))
        (fun _ _ _ _ _ => pg_tup rfl (pgs_cons (pg_name (i := 7) scSures.nd rfl (Or.inl rfl)) (pgs_cons (pg_name (i := 8) scSures.nd rfl (Or.inl rfl)) pgs_nil))) (fun _ _ _ _ _ => pts_nil) (fun _ _ _ _ _ => pv 7))
      (pss_cons (ps_set (i := 2) scSures.nd rfl (.inl rfl) pe_bl)
      (pss_cons (ps_while PassesOwn.never (pt_val (pv 2)) (pss_cons (ps_set (i := 2) scSures.nd rfl (.inl rfl) pe_bl)
        (pss_one (ps_for PassesOwn.never rfl (pi_revR (by rfl) T.rev (prg_1 (by rfl) T.range (pe_callB call_len_seq (by rfl) T.len PySem.boot_len (pa_cons (pv 0) pa_nil)))) (pg_name (i := 3) scSures.nd rfl (.inl rfl))
          (pss_cons (ps_set (i := 4) scSures.nd rfl (.inl rfl) (pe_ix ix_list (pv 1) (pv 3) (fun _ _ => rfl)))
          (pss_cons (ps_for PassesOwn.never rfl (pi_list (pe_ix ix_tup (pe_ix ix_list (pv 0) (pv 3) (fun _ _ => rfl)) pe_int (fun _ _ => rfl))) (pg_tup rfl (pgs_cons (pg_name (i := 5) scSures.nd rfl (Or.inl rfl)) (pgs_cons (pg_name (i := 6) scSures.nd rfl (Or.inl rfl)) pgs_nil)))
            (pss_one (ps_set (i := 4) scSures.nd rfl (.inl rfl) (ca cC hr (by decide) (by rfl) (pa_cons (pv 4) (pa_cons (pe_op op_add_str (pv 5) (pe_ix ix_list (pv 1) (pv 6) (fun _ _ => rfl))) pa_nil))))))
          (pss_one (ps_if (pt_cmpR op_ne (pv 4) (pe_ix ix_list (pv 1) (pv 3) (fun _ _ => rfl)) (nomark _)) (pss_cons (ps_asg (pv 4) (pg_sub (pv 1) (pv 3) set_list)) (pss_one (ps_set (i := 2) scSures.nd rfl (.inl rfl) pe_bl))) pss_nil))))))))
      (pss_one (ps_ret (pv 1))))), ?_⟩
    obtain ⟨vs, e0, hl, k0⟩ := id A0
    refine ⟨_, rfl, a, rfl, ⟨vs, SqL.of e0⟩, fun D hD => lc_it (walk_list (a := a) (xs := vs)) (fun i H1 => Same H H1 ∧ H1 D = some (.lst ((rs.take i).map fun r => tx r.1))) ⟨same_upd hD, upd_same⟩ (fun i H1 _ h => SqL.of (h.1 _ _ e0)) ?_ ?_⟩
    · rintro i x H1 H2 hi ⟨s1, eD⟩ ⟨rfl, ex⟩
      have hi' : i < rs.length := by omega
      obtain ⟨t, p, rfl, et, _⟩ := k0 i x _ ex (List.getElem?_eq_getElem hi')
      refine ⟨t, _, rfl, SqT.of (s1 _ _ et), rfl, _, _, rfl, _, _, rfl, rfl, rfl, _, rfl, _, eD, line_lt (by rw [List.length_map, List.length_take]; have := R.le; omega), s1.put hD, ?_⟩
      rw [upd_same, take_snoc (List.getElem?_eq_getElem hi'), List.map_append]
      rfl
    rintro H1 ⟨s1, eD⟩
    rw [hl, List.take_length] at eD
    refine ⟨fun m σ H' => ∃ (s : List Tx) (sh : Bool) (z1 z2 z3 z4 : Option V), Same H H' ∧ H' D = some (.lst (s.map tx)) ∧ SInv ls rs s ∧ (sh = false → ∀ k, k < rs.length → foldS s (s.getD k []) (waysAt rs k) = s.getD k []) ∧ m = 2 * total s + (if sh then 1 else 0) ∧
      σ = [some (.ref a), some (.ref D), some (.bl sh), z1, z2, z3, z4, none, none], ⟨_, rs.map (·.1), true, none, none, none, none, s1, by rw [List.map_map]; exact eD, SInv.start, fun z => (nomatch z), rfl, rfl⟩, ?_⟩
    rintro m σ H2 ⟨u, sh, z1, z2, z3, z4, s2, e2, I, hf, rfl, rfl⟩
    refine ⟨_, rfl, sh, rfl, ?_⟩
    cases sh with
    | false =>
      refine iteF ⟨_, rfl, q D u H2 s2 hD e2 (I.done L R (hf rfl))⟩
    | true =>
      refine iteT ⟨Less _ _, less_ok, ?_⟩
      have el := s2 _ _ e0
      have hn : ((vs.length : Int) - 0).toNat = rs.length := by omega
      refine ⟨_, rfl, a, vs, rfl, .inl (SqL.of el), _, rfl, by omega, by omega, by omega, ?_, ?_⟩
      · have := R.le
        omega
      refine for_it walk_rangeC (fun i σ H3 => ∃ (v : List Tx) (sh : Bool) (z1 z2 z3 z4 : Option V), Same H H3 ∧ H3 D = some (.lst (v.map tx)) ∧ SInv ls rs v ∧ (sh = false → v = u ∧ ∀ k, rs.length ≤ k + i → k < rs.length → foldS v (v.getD k []) (waysAt rs k) = v.getD k []) ∧ (sh = true → total v < total u) ∧
        σ = [some (.ref a), some (.ref D), some (.bl sh), z1, z2, z3, z4, none, none]) ⟨u, false, z1, z2, z3, z4, s2, e2, I, fun _ => ⟨rfl, fun k h1 h2 => by omega⟩, fun z => (nomatch z), rfl⟩ (fun _ _ _ _ _ => trivial) ?_ ?_
      · rintro i x σ H3 H4 hi ⟨v, sh, z1, z2, z3, z4, s3, e3, J, hv, ht, rfl⟩ ⟨rfl, hx⟩
        rw [hn] at hi
        have hk : rs.length - 1 - i < rs.length := by omega
        have hx2 : x = nn (rs.length - 1 - i) := by
          rw [hx]
          refine congrArg V.int ?_
          omega
        clear hx
        subst hx2
        have hki : rs.length - 1 - i + i + 1 = rs.length := by omega
        generalize rs.length - 1 - i = k at *
        have hkv : k < v.length := by rw [J.len]; exact hk
        have hlen : ∀ j, j < rs.length → (v.getD j []).length ≤ B := fun j hj => Nat.le_trans (J.pre j hj).length_le (R.room_at hj).2.1
        obtain ⟨vs', t, p, ws, e4, _, e5, e6, e7, l7, k7⟩ := (A0.mono s3).room hk
        refine ⟨_, rfl, _, rfl, D, _, _, _, rfl, rfl, SqL.of e3, atI_nat (map_at (d := []) hkv), ?_⟩
        refine ⟨_, rfl, _, rfl, a, vs', _, _, rfl, rfl, SqL.of e4, atI_nat e5, t, _, 1, .ref p, rfl, rfl, SqT.of e6, rfl, p, rfl, ⟨ws, SqL.of e7⟩, ?_⟩
        refine for_it (walk_list (a := p) (xs := ws)) (fun j σ H5 => H5 = H4 ∧ ∃ z3 z4, σ = [some (.ref a), some (.ref D), some (.bl sh), some (nn k), some (tx (foldS v (v.getD k []) ((waysAt rs k).take j))), z3, z4, none, none]) ⟨rfl, z3, z4, rfl⟩ (fun j σ H5 _ h => by rw [h.1]; exact SqL.of e7) ?_ ?_
        · rintro j x σ H5 H6 hj ⟨rfl, z3, z4, rfl⟩ ⟨rfl, ex⟩
          have hj' : j < (waysAt rs k).length := by omega
          obtain ⟨u2, rfl, eu⟩ := k7 j x _ ex (List.getElem?_eq_getElem hj')
          have hw := (R.room_at hk).2.2.2 _ (List.getElem_mem hj')
          refine ⟨u2, _, rfl, SqT.of eu, rfl, _, _, rfl, _, _, rfl, rfl, ?_⟩
          have hwv : (waysAt rs k)[j].2 < v.length := by rw [J.len]; exact hw.2.2
          have h5 := hlen _ hw.2.2
          refine ⟨_, rfl, _, rfl, _, rfl, _, rfl, D, _, _, _, rfl, rfl, SqL.of e3, atI_nat (map_at (d := []) hwv), _, _, rfl, rfl, ?_, ?_⟩
          · rw [ss_len, ss_len]
            exact line_ok (by omega)
          · refine ⟨_, (waysAt rs k)[j].1 ++ v.getD (waysAt rs k)[j].2 [], by rw [ss_app] <;> rfl, ?_, ?_, rfl, some (tx (waysAt rs k)[j].1), some (nn (waysAt rs k)[j].2), ?_⟩
            · have := (foldS_pre v ((waysAt rs k).take j) (v.getD k [])).length_le
              have := hlen k hk
              omega
            · rw [List.length_append]
              omega
            · rw [take_snoc (List.getElem?_eq_getElem hj'), foldS_snoc]
              rfl
        · rintro σ H5 ⟨rfl, z3, z4, rfl⟩
          rw [l7, List.take_length]
          have ew : foldS v (v.getD k []) (waysAt rs k) <+: v.getD k [] := foldS_pre _ _ _
          refine ⟨_, rfl, _, rfl, _, rfl, D, _, _, _, rfl, rfl, SqL.of e3, atI_nat (map_at (d := []) hkv), rfl, _, rfl, ?_⟩
          rw [tx_dec]
          by_cases e : foldS v (v.getD k []) (waysAt rs k) = v.getD k []
          · rw [decide_eq_true e]
            refine iteF ⟨v, sh, _, _, _, _, s3, e3, J, fun z => ⟨(hv z).1, fun k' h1 h2 => ?_⟩, ht, rfl⟩
            by_cases ek : k' = k
            · rw [ek]; exact e
            · exact (hv z).2 k' (by omega) h2
          · rw [decide_eq_false e]
            refine iteT ⟨_, rfl, _, rfl, _, rfl, D, _, _, k, rfl, rfl, e3, ?_, ?_⟩
            · rw [List.length_map]
              exact ixN_nat hkv
            · have hs := total_set hkv (foldS v (v.getD k []) (waysAt rs k))
              have hp := pre_lt ew e
              refine ⟨v.set k (foldS v (v.getD k []) (waysAt rs k)), true, _, _, _, _, s3.put hD, ?_, J.turn L R hk, fun z => (nomatch z), fun _ => ?_, rfl⟩
              · rw [upd_same, List.map_set]
              · cases sh with
                | false =>
                  rw [(hv rfl).1] at hs hp ⊢
                  omega
                | true =>
                  have := ht rfl
                  omega
      · rintro σ H3 ⟨v, sh, z1, z2, z3, z4, s3, e3, J, hv, ht, rfl⟩
        cases sh with
        | false =>
          obtain ⟨rfl, hk⟩ := hv rfl
          exact ⟨2 * total v, by show _ < 2 * total v + 1; omega, v, false, z1, z2, z3, z4, s3, e3, J, fun _ k h => hk k (by omega) h, rfl, rfl⟩
        | true =>
          have := ht rfl
          exact ⟨2 * total v + 1, by show _ < 2 * total u + 1; omega, v, true, z1, z2, z3, z4, s3, e3, J, fun z => (nomatch z), rfl, rfl⟩
end
end K70
namespace K70
open PySem PySem.Spec PyProof.Rows L2
theorem ways_off {H : Hp} {D D2 : Addr} {vs : List V} {xs : List Way} (hd : H D = some (.lst vs)) (ne : D2 ≠ D) (h : LAt WayAt H D2 xs) : LAt WayAt (Off D H) D2 xs := by
  obtain ⟨us, e, l, k⟩ := h
  refine ⟨us, by rw [off_at ne]; exact e, l, fun i v y h1 h2 => ?_⟩
  obtain ⟨t, e1, e2⟩ := k i v y h1 h2
  exact ⟨t, e1, by rw [off_at (ne_of e2 hd (by intro z; cases z))]; exact e2⟩
theorem room_mk {H : Hp} {D D2 t : Addr} {vs : List V} {r : Rm} (hd : H D = some (.lst vs)) (ne : D2 ≠ D) (h : LAt WayAt H D2 r.2) (ht : H t = none) : RoomAt (Off D (upd H t (.tup [tx r.1, .ref D2]))) (.ref t) r := by
  have nt : t ≠ D := fun z => by rw [z, hd] at ht; cases ht
  refine ⟨t, D2, rfl, by rw [off_at nt, upd_same], ?_⟩
  exact ways_off (vs := vs) ((same_upd ht) _ _ hd) ne (LAt.mono (R := WayAt) (fun a b => WayAt.mono a b) (same_upd ht) h)
section
variable {P : Program} {w : World} {K : PySem.W.Frag} {mg : Str → Option Value} {base : Heap} {C f : Addr} {fd : FuncData}
abbrev sEarly : Stmt := top 21
abbrev nEarly : List Str := ["rooms", "sures", "found", "k", "end", "ways", "many", "text", "there"]
theorem scEarly : FnScope nEarly ["rooms", "sures"] (defScope sEarly) := ⟨rfl, rfl, rfl, by decide +kernel, rfl, by decide +kernel, by decide +kernel⟩
def spEarly : Sp := fun vs H Q _ => ∃ (a b B : Nat) (ls : Tx) (rs : List Rm) (s : List Tx), vs = [.ref a, .ref b] ∧ RoomsAt H a rs ∧ H b = some (.lst (s.map tx)) ∧ ROk ls B rs ∧ Sures ls rs s ∧ ls.length ≤ 16 ∧ B ≤ 500000 ∧ ∀ D H', Same H H' → H D = none → RoomsAt H' D (early s rs) → Q (.ref D) H'
theorem ok_early (F : FnP K "told_early" "told_early" sEarly f fd) (T : Txt K mg C) : FnOk P w K mg base CX0 1 f fd ["rooms", "sures"] spEarly := by
  refine okD F scEarly (fun vs H Q E h => ?_) (fun cdv A outer s H vs Q E hr h => ?_)
  · obtain ⟨a, b, B, ls, rs, s, rfl, _⟩ := h
    rfl
  · obtain ⟨a, b, B, ls, rs, s, rfl, A0, hb, R, S, hls, hB, q⟩ := h
    refine ⟨_, pss_cons (ps_set (i := 2) scEarly.nd rfl (.inl rfl) (pe_lst pa_nil))
      (pss_cons (ps_for PassesOwn.never rfl (pi_enum (by rfl) T.enu (pa_cons (pv 0) pa_nil)) (pg_tup rfl (pgs_cons (pg_name (i := 3) scEarly.nd rfl (.inl rfl)) (pgs_cons (pg_tup rfl (pgs_cons (pg_name (i := 4) scEarly.nd rfl (.inl rfl)) (pgs_cons (pg_name (i := 5) scEarly.nd rfl (.inl rfl)) pgs_nil))) pgs_nil)))
        (pss_cons (ps_set (i := 6) scEarly.nd rfl (.inr rfl) (pe_callB call_len_str (by rfl) T.len PySem.boot_len (pa_cons (pe_ix ix_list (pv 1) (pv 3) (fun _ _ => rfl)) pa_nil)))
        (pss_one (ps_expr (pe_bm PySem.F.plainAttrs_list PySem.F.slot_list_append PySem.F.type_list_append mt_append (pv 2) (pa_cons (pe_tup (pa_cons (pe_slice sl_str (pv 4) (po_some (pv 6)) po_none)
          (pa_cons (pe_lc (own := [("text", 7), ("there", 8)]) (g := gTup K 2 (gCons (gName 7) (gCons (gName 8) gNil))) (tt := tYes) rfl scEarly.nd (pi_list (pv 5)) (blkOk_by (N := nEarly) (sc := defScope sEarly) (by decide +kernel))
            (fun _ _ _ _ _ => pg_tup rfl (pgs_cons (pg_name (i := 7) scEarly.nd rfl (Or.inl rfl)) (pgs_cons (pg_name (i := 8) scEarly.nd rfl (Or.inl rfl)) pgs_nil))) (fun _ _ _ _ _ => pts_nil)
            (fun _ _ _ _ _ => pe_tup (pa_cons (pe_slice sl_str (pe_op op_add_str (pv 7) (pe_ix (r := rIxL K) ix_list (pv 1) (pv 8) (fun _ _ => rfl))) (po_some (pv 6)) po_none) (pa_cons (pv 8) pa_nil)))) pa_nil))) pa_nil))))))
      (pss_one (ps_ret (pv 2)))), ?_⟩
    obtain ⟨vs, e0, hl, k0⟩ := id A0
    refine ⟨Nat.zero_le _, fun D hD => ?_⟩
    refine ⟨_, rfl, a, vs, rfl, SqL.of ((same_upd hD) _ _ e0), for_it (walk_enum (a := a) (xs := vs)) (fun i σ H1 => Bld RoomAt H D H1 ((early s rs).take i) ∧ ∃ z1 z2 z3 z4, σ = [some (.ref a), some (.ref b), some (.ref D), z1, z2, z3, z4, none, none]) ⟨Bld.start hD, none, none, none, none, rfl⟩ (fun i σ H1 _ h => SqL.of (h.1.same _ _ e0)) ?_ ?_⟩
    · rintro i x σ H1 H2 hi ⟨b1, z1, z2, z3, z4, rfl⟩ ⟨t, u, v, rfl, hn, rfl, eu, ev⟩
      replace ev : vs[i]? = some v := ev
      cases eu
      have hi' : i < rs.length := by omega
      have s1 : Same H (upd H1 t (.tup [.int (i : Nat), v])) := b1.same.trans (same_upd hn)
      obtain ⟨t0, p, rfl, et, ws, ew, lw, kw⟩ := k0 i v _ ev (List.getElem?_eq_getElem hi')
      rw [ends_at hi'] at et lw kw
      dsimp only at et lw kw
      obtain ⟨acc, eD, lD, _⟩ := b1.ex
      have eD2 := (same_upd (o := .tup [.int (i : Nat), V.ref t0]) hn) _ _ eD
      have hR := R.room_at hi'
      have hsl := fun j hj => S.len_le R (k := j) hj
      have his : i < s.length := by rw [S.len]; exact hi'
      refine ⟨t, _, rfl, SqT.of upd_same, rfl, _, _, rfl, _, _, rfl, ⟨t0, _, rfl, SqT.of (s1 _ _ et), rfl, _, _, rfl, _, _, rfl, rfl, ?_⟩⟩
      refine ⟨rfl, ?_⟩
      refine ⟨_, rfl, _, rfl, b, _, _, _, rfl, rfl, SqL.of (s1 _ _ hb), atI_nat (map_at (d := []) his), _, rfl, by rw [ss_len]; have := hsl i hi'; exact line_ok (by omega), ?_⟩
      refine ⟨_, rfl, .inl ⟨rfl, _, SqL.of eD2⟩, ?_⟩
      refine ⟨_, rfl, _, rfl, _, rfl, _, rfl, by rw [ss_len]; have := hR.2.1; exact line_ok (by omega), ?_⟩
      refine ⟨_, rfl, p, rfl, ⟨ws, SqL.of (s1 _ _ ew)⟩, fun D2 hD2 => lc_it (walk_list (a := p) (xs := ws)) (fun j H5 => Bld WayAt (upd H1 t (.tup [.int (i : Nat), .ref t0])) D2 H5 ((earlyRoom s i (endAt rs i, waysAt rs i)).2.take j)) (Bld.start hD2) (fun j H5 _ h => SqL.of (h.same _ _ (s1 _ _ ew))) ?_ ?_⟩
      · rintro j x H5 H6 hj b5 ⟨rfl, ex⟩
        have hj' : j < (waysAt rs i).length := by omega
        obtain ⟨u, rfl, eu⟩ := kw j x _ ex (List.getElem?_eq_getElem hj')
        have hw := hR.2.2.2 _ (List.getElem_mem hj')
        have s5 := s1.trans b5.same
        have hws : (waysAt rs i)[j].2 < s.length := by rw [S.len]; exact hw.2.2
        have h5 := hsl _ hw.2.2
        refine ⟨u, _, rfl, SqT.of (s5 _ _ eu), rfl, _, _, rfl, _, _, rfl, rfl, rfl, ?_⟩
        refine ⟨_, rfl, _, rfl, _, rfl, b, _, _, _, rfl, rfl, SqL.of (s5 _ _ hb), atI_nat (map_at (d := []) hws), _, _, rfl, rfl, by rw [ss_len, ss_len]; exact line_ok (by omega), ?_⟩
        refine ⟨_, rfl, _, rfl, _, rfl, by rw [ss_app, ss_len, List.length_append]; exact line_ok (by omega), _, rfl, two_ok, fun t6 ht6 => ?_⟩
        obtain ⟨vs6, ev6, _, _⟩ := b5.ex
        have n6 : t6 ≠ D2 := fun z => by rw [z, ev6] at ht6; cases ht6
        have ej : (earlyRoom s i (endAt rs i, waysAt rs i)).2[j]? = some (((waysAt rs i)[j].1 ++ s.getD (waysAt rs i)[j].2 []).drop (s.getD i []).length, (waysAt rs i)[j].2) := by
          unfold earlyRoom
          rw [List.getElem?_map, List.getElem?_eq_getElem hj']
          rfl
        obtain ⟨acc6, ea, la, b6⟩ := b5.snoc mono_way hD2 (same_upd (o := .tup [tx (((waysAt rs i)[j].1 ++ s.getD (waysAt rs i)[j].2 []).drop (s.getD i []).length), nn (waysAt rs i)[j].2]) ht6) (v := .ref t6) (x := (((waysAt rs i)[j].1 ++ s.getD (waysAt rs i)[j].2 []).drop (s.getD i []).length, (waysAt rs i)[j].2)) ⟨t6, rfl, by rw [off_at n6, upd_same]⟩
        rw [ss_app, ss_len, cut_from]
        refine ⟨acc6, ea, line_lt (by rw [la, List.length_take]; unfold earlyRoom; rw [List.length_map]; omega), ?_⟩
        rw [take_snoc ej]
        exact b6
      · rintro H5 b5
        have A5 := b5.done mono_way
        rw [lw, List.take_of_length_le (by unfold earlyRoom; simp)] at A5
        refine ⟨two_ok, fun t7 ht7 => ?_⟩
        have eD5 := b5.same _ _ eD2
        have nD : D2 ≠ D := fun z => by rw [z, eD2] at hD2; cases hD2
        rw [ss_len, cut_from]
        have ei : (early s rs)[i]? = some (earlyRoom s i (endAt rs i, waysAt rs i)) := by
          unfold early
          rw [List.getElem?_mapIdx, List.getElem?_eq_getElem hi', ends_at hi']
          rfl
        have hm := room_mk (r := earlyRoom s i (endAt rs i, waysAt rs i)) eD5 nD A5 ht7
        obtain ⟨acc8, ea, la, b8⟩ := b1.snoc mono_room hD ((same_upd hn).trans (b5.same.trans (same_upd ht7))) hm
        refine ⟨D, acc8, _, rfl, rfl, ea, line_lt (by rw [la, List.length_take, early_len]; have := R.le; omega), ?_⟩
        refine ⟨?_, _, _, _, _, rfl⟩
        rw [take_snoc ei]
        exact b8
    · rintro σ H1 ⟨b1, z1, z2, z3, z4, rfl⟩
      have A5 : RoomsAt H1 D (early s rs) := by
        have A5 := b1.done mono_room
        rw [hl, List.take_of_length_le (by rw [early_len]; exact Nat.le_refl _)] at A5
        exact A5
      exact ⟨_, rfl, q D H1 b1.same hD A5⟩
end
end K70
namespace K70
open PySem PySem.Spec PyProof.Rows L2
theorem hu9 {A : Around} {k : Nat} (hr : L2.Room k A) : A.units + 9 < cLine := Nat.lt_of_le_of_lt (Nat.add_le_add_left (by decide : 9 ≤ 64) _) hr.units
section
variable {P : Program} {w : World}
theorem _root_.K70.NDict.keep {H H' : Hp} {d : Addr} {ms : List MK} (n : NDict P w H d ms) (hd : H' d = H d) (ht : ∀ b ys, H b = some (.tup ys) → H' b = some (.tup ys)) : NDict P w H' d ms := by
  obtain ⟨xs, e, l, nd, k⟩ := n
  exact ⟨xs, hd.trans e, l, nd, fun i x m h1 h2 => ⟨(k i x m h1 h2).1, (k i x m h1 h2).2.1.keeps ht, (k i x m h1 h2).2.2⟩⟩
theorem NDict.mono {H H' : Hp} {d : Addr} {ms : List MK} (s : Same H H') (n : NDict P w H d ms) : NDict P w H' d ms := by
  obtain ⟨xs, e, l, nd, k⟩ := id n
  exact n.keep ((s _ _ e).trans e.symm) fun b ys h => s _ _ h
theorem NDict.ne_lst {H : Hp} {d D : Addr} {ms : List MK} {vs : List V} (n : NDict P w H d ms) (h : H D = some (.lst vs)) : D ≠ d := by
  obtain ⟨xs, e, _⟩ := n
  exact ne_of h e (by intro z; cases z)
theorem NDict.put {H : Hp} {d D : Addr} {ms : List MK} {vs us : List V} (n : NDict P w H d ms) (h : H D = some (.lst vs)) : NDict P w (upd H D (.lst us)) d ms :=
  n.keep (upd_ne (fun z => n.ne_lst h z.symm)) fun b ys e => by rw [upd_ne (ne_of e h (by intro z; cases z))]; exact e
end
/-- the places of a told list -/
theorem refs_of {H : Hp} {a : Addr} {xs : List Way} (h : LAt WayAt H a xs) : ∃ ts : List Addr, H a = some (.lst (ts.map V.ref)) ∧ ts.length = xs.length ∧ ∀ (i : Nat) (t : Addr) (y : Way), ts[i]? = some t → xs[i]? = some y → H t = some (.tup [tx y.1, nn y.2]) := by
  obtain ⟨vs, e, l, k⟩ := h
  have hex : ∃ ts : List Addr, vs = ts.map V.ref := by
    refine ⟨vs.map (fun v => match v with | .ref t => t | _ => 0), ?_⟩
    rw [List.map_map]
    refine (List.ext_getElem? fun i => ?_)
    rw [List.getElem?_map]
    cases ev : vs[i]? with
    | none => rfl
    | some v =>
      have hi : i < xs.length := by rw [← l]; exact (List.getElem?_eq_some_iff.mp ev).1
      obtain ⟨t, rfl, _⟩ := k i v _ ev (List.getElem?_eq_getElem hi)
      rfl
  obtain ⟨ts, rfl⟩ := hex
  refine ⟨ts, e, by rw [← l, List.length_map], fun i t y h1 h2 => ?_⟩
  obtain ⟨t2, e1, e2⟩ := k i (.ref t) y (by rw [List.getElem?_map, h1]; rfl) h2
  cases e1
  exact e2
theorem ix_new {l : List Mark} {x : Mark} (h : x ∉ l) (nd : l.Nodup) : ix (l ++ [x]) x = l.length := by
  have nd2 : (l ++ [x]).Nodup := by
    rw [List.nodup_append]
    exact ⟨nd, by simp, fun a ha b hb => by rw [List.mem_singleton.mp hb]; rintro rfl; exact h ha⟩
  have := ix_at nd2 (i := l.length) (by simp)
  simpa using this
def rTupleOf (K : PySem.W.Frag) : List V → Hp → VK → Prop := fun xs H Q => ∃ p ys, xs = [.ref p] ∧ ((SqL K H p ys ∧ ∀ l, H l = none → Q (.ref l) (upd H l (.tup ys))) ∨ (SqT K H p ys ∧ Q (.ref p) H))
section
variable {P : Program} {w : World} {K : PySem.W.Frag} {mg : Str → Option Value} {base : Heap} {C f : Addr} {fd : FuncData}
abbrev sKinds : Stmt := top 22
abbrev nKinds : List Str := ["rooms", "kinds", "many", "marks", "found", "end", "ways", "mark", "room", "text", "there"]
theorem scKinds : FnScope nKinds ["rooms"] (defScope sKinds) := ⟨rfl, rfl, rfl, by decide +kernel, rfl, by decide +kernel, by decide +kernel⟩
def spKinds : Sp := fun vs H Q _ => ∃ (a B : Nat) (ls : Tx) (rs : List Rm), vs = [.ref a] ∧ RoomsAt H a rs ∧ LOk ls ∧ ROk ls B rs ∧ Tight ls rs ∧ ∀ D kd H', Same H H' → H D = none → H' D = some (.lst (kd.map nn)) → Kinds ls rs kd → Q (.ref D) H'
theorem ok_kinds (F : FnP K "kinds_of" "kinds_of" sKinds f fd) (T : Txt K mg C) : FnOk P w K mg base CX0 1 f fd ["rooms"] spKinds := by
  refine okD F scKinds (fun vs H Q E h => ?_) (fun cdv A outer s H vs Q E hr h => ?_)
  · obtain ⟨a, B, ls, rs, rfl, _⟩ := h
    rfl
  · obtain ⟨a, B, ls, rs, rfl, A0, L, R, Ti, q⟩ := h
    refine ⟨_, pss_cons (ps_set (i := 1) scKinds.nd rfl (.inr rfl) (pe_lc (own := [("room", 8)]) (g := gName 8) (tt := tYes) rfl scKinds.nd (pi_list (pv 0)) (blkOk_by (N := nKinds) (sc := defScope sKinds) (by decide +kernel))
        (fun _ _ _ _ _ => pg_name (i := 8) scKinds.nd rfl (Or.inl rfl)) (fun _ _ _ _ _ => pts_nil) (fun _ _ _ _ _ => pe_int)))
      (pss_cons (ps_set (i := 2) scKinds.nd rfl (.inl rfl) pe_int)
      (pss_one (ps_while PassesOwn.never (pt_val pe_bl)
        (pss_cons (ps_set (i := 3) scKinds.nd rfl (.inl rfl) pe_dnewN)
        (pss_cons (ps_set (i := 4) scKinds.nd rfl (.inl rfl) (pe_lst pa_nil))
        (pss_cons (ps_for PassesOwn.never rfl (pi_list (pv 0)) (pg_tup rfl (pgs_cons (pg_name (i := 5) scKinds.nd rfl (.inl rfl)) (pgs_cons (pg_name (i := 6) scKinds.nd rfl (.inl rfl)) pgs_nil)))
          (pss_cons (ps_set (i := 7) scKinds.nd rfl (.inl rfl) (pe_tup (pa_cons (pv 5) (pa_cons (pe_callTy (T := "tuple") (r := rTupleOf K) call_tuple_of (by rfl) T.tuple (by decide +kernel) (pa_cons
            (pe_lc (own := [("text", 9), ("there", 10)]) (g := gTup K 2 (gCons (gName 9) (gCons (gName 10) gNil))) (tt := tYes) rfl scKinds.nd (pi_list (pv 6)) (blkOk_by (N := nKinds) (sc := defScope sKinds) (by decide +kernel))
              (fun _ _ _ _ _ => pg_tup rfl (pgs_cons (pg_name (i := 9) scKinds.nd rfl (Or.inl rfl)) (pgs_cons (pg_name (i := 10) scKinds.nd rfl (Or.inl rfl)) pgs_nil))) (fun _ _ _ _ _ => pts_nil)
              (fun _ _ _ _ _ => pe_tup (pa_cons (pv 9) (pa_cons (pe_ix (r := rIxL K) ix_list (pv 1) (pv 10) (fun _ _ => rfl)) pa_nil)))) pa_nil)) pa_nil))))
          (pss_one (ps_expr (pe_bm PySem.F.plainAttrs_list PySem.F.slot_list_append PySem.F.type_list_append mt_append (pv 4) (pa_cons (pe_setdN (hu9 hr) (pv 3) (pv 7) (pe_callB call_lenN (by rfl) T.len PySem.boot_len (pa_cons (pv 3) pa_nil)) ⟨rfl, rfl, rfl, rfl⟩) pa_nil))))))
        (pss_cons (ps_if (pt_cmpR op_eq (pe_callB call_lenN (by rfl) T.len PySem.boot_len (pa_cons (pv 3) pa_nil)) (pv 2) (nomark _)) (pss_one (ps_ret (pv 4))) pss_nil)
        (pss_cons (ps_set (i := 1) scKinds.nd rfl (.inr rfl) (pv 4))
        (pss_one (ps_set (i := 2) scKinds.nd rfl (.inl rfl) (pe_callB call_lenN (by rfl) T.len PySem.boot_len (pa_cons (pv 3) pa_nil)))))))))))), ?_⟩
    obtain ⟨vs, e0, hl, k0⟩ := id A0
    refine ⟨_, rfl, a, rfl, ⟨vs, SqL.of e0⟩, fun D hD => lc_it (walk_list (a := a) (xs := vs)) (fun i H1 => Same H H1 ∧ H1 D = some (.lst (((rs.take i).map fun _ => 0).map nn))) ⟨same_upd hD, upd_same⟩ (fun i H1 _ h => SqL.of (h.1 _ _ e0)) ?_ ?_⟩
    · rintro i x H1 H2 hi ⟨s1, eD⟩ ⟨rfl, ex⟩
      have hi' : i < rs.length := by omega
      refine ⟨rfl, _, eD, line_lt (by rw [List.length_map, List.length_map, List.length_take]; have := R.le; omega), s1.put hD, ?_⟩
      rw [upd_same, take_snoc (List.getElem?_eq_getElem hi'), List.map_append, List.map_append]
      rfl
    rintro H1 ⟨s1, eD⟩
    rw [hl, List.take_length] at eD
    refine ⟨fun m σ H' => ∃ (kd : List Nat) (many : Nat) (k0 : Addr) (z3 z4 z5 z6 z7 : Option V), Same H H' ∧ H' k0 = some (.lst (kd.map nn)) ∧ KInv ls rs kd many ∧ many ≤ rs.length ∧ m = rs.length - many ∧
      σ = [some (.ref a), some (.ref k0), some (nn many), z3, z4, z5, z6, z7, none, none, none], ⟨_, rs.map fun _ => 0, 0, D, none, none, none, none, none, s1, eD, KInv.start, Nat.zero_le _, rfl, rfl⟩, ?_⟩
    rintro m σ H2 ⟨kd, many, kA, z3, z4, z5, z6, z7, s2, e2, I, hm, rfl, rfl⟩
    refine ⟨true, rfl, iteT ⟨Less _ _, less_ok, ?_⟩⟩
    intro M hM
    refine ⟨Nat.zero_le _, fun G hG => ?_⟩
    have nGM : G ≠ M := fun z => by rw [z, upd_same] at hG; cases hG
    have hG2 : H2 G = none := by rw [upd_ne nGM] at hG; exact hG
    have hGH : H G = none := s2.free hG2
    have s3 : Same H2 (upd (upd H2 M (NDo P w M [])) G (.lst [])) := (same_upd hM).trans (same_upd hG)
    have n3 : NDict P w (upd (upd H2 M (NDo P w M [])) G (.lst [])) M (firsts ((marks kd rs).take 0)) := NDict.mono (same_upd hG) ndict_nil
    have hml : (marks kd rs).length = rs.length := by unfold marks; rw [List.length_map]
    refine ⟨_, rfl, a, rfl, ⟨vs, SqL.of (s3 _ _ (s2 _ _ e0))⟩, for_it (walk_list (a := a) (xs := vs)) (fun i σ H3 => Same H2 H3 ∧ NDict P w H3 M (firsts ((marks kd rs).take i)) ∧ H3 G = some (.lst ((nums ((marks kd rs).take i)).map nn)) ∧
      ∃ z5 z6 z7, σ = [some (.ref a), some (.ref kA), some (nn many), some (.ref M), some (.ref G), z5, z6, z7, none, none, none]) ⟨s3, n3, upd_same, z5, z6, z7, rfl⟩ (fun i σ H3 _ h => SqL.of (h.1 _ _ (s2 _ _ e0))) ?_ ?_⟩
    · rintro i x σ H3 H4 hi ⟨s4, n4, e4, z5, z6, z7, rfl⟩ ⟨rfl, ex⟩
      have hi' : i < rs.length := by omega
      obtain ⟨t, p, rfl, et, ws, ew, lw, kw⟩ := k0 i x _ ex (List.getElem?_eq_getElem hi')
      rw [ends_at hi'] at et lw kw
      dsimp only at et lw kw
      have hR := R.room_at hi'
      have s5 := s2.trans s4
      refine ⟨t, _, rfl, SqT.of (s5 _ _ et), rfl, _, _, rfl, _, _, rfl, rfl, ?_⟩
      have ekd := s4 _ _ e2
      refine ⟨_, rfl, _, rfl, p, rfl, ⟨ws, SqL.of (s5 _ _ ew)⟩, fun D2 hD2 => lc_it (walk_list (a := p) (xs := ws)) (fun j H5 => Bld WayAt H4 D2 H5 ((markOf kd (endAt rs i, waysAt rs i)).2.take j)) (Bld.start hD2) (fun j H5 _ h => SqL.of (h.same _ _ (s5 _ _ ew))) ?_ ?_⟩
      · rintro j x H5 H6 hj b5 ⟨rfl, ex⟩
        have hj' : j < (waysAt rs i).length := by omega
        obtain ⟨u, rfl, eu⟩ := kw j x _ ex (List.getElem?_eq_getElem hj')
        have hw := hR.2.2.2 _ (List.getElem_mem hj')
        have hwk : (waysAt rs i)[j].2 < kd.length := by rw [I.len]; exact hw.2.2
        refine ⟨u, _, rfl, SqT.of (b5.same _ _ (s5 _ _ eu)), rfl, _, _, rfl, _, _, rfl, rfl, rfl, ?_⟩
        refine ⟨_, rfl, _, rfl, _, rfl, kA, _, _, _, rfl, rfl, SqL.of (b5.same _ _ ekd), atI_nat (map_at (d := 0) hwk), two_ok, fun t6 ht6 => ?_⟩
        obtain ⟨vs6, ev6, _, _⟩ := b5.ex
        have n6 : t6 ≠ D2 := fun z => by rw [z, ev6] at ht6; cases ht6
        have ej : (markOf kd (endAt rs i, waysAt rs i)).2[j]? = some ((waysAt rs i)[j].1, kd.getD (waysAt rs i)[j].2 0) := by
          unfold markOf
          rw [List.getElem?_map, List.getElem?_eq_getElem hj']
          rfl
        obtain ⟨acc6, ea, la, b6⟩ := b5.snoc mono_way hD2 (same_upd (o := .tup [tx (waysAt rs i)[j].1, nn (kd.getD (waysAt rs i)[j].2 0)]) ht6) (v := .ref t6) (x := ((waysAt rs i)[j].1, kd.getD (waysAt rs i)[j].2 0)) ⟨t6, rfl, by rw [off_at n6, upd_same]⟩
        refine ⟨acc6, ea, line_lt (by rw [la, List.length_take]; unfold markOf; rw [List.length_map]; have := L.le; omega), ?_⟩
        rw [take_snoc ej]
        exact b6
      · rintro H5 b5
        have A5 := b5.done mono_way
        rw [lw, List.take_of_length_le (by unfold markOf; simp)] at A5
        obtain ⟨ts, eT, lT, kT⟩ := refs_of A5
        refine ⟨D2, _, rfl, .inl ⟨SqL.of eT, fun p6 hp6 => ⟨two_ok, fun t7 ht7 => ?_⟩⟩⟩
        have s6 : Same H5 (upd (upd H5 p6 (.tup (ts.map V.ref))) t7 (.tup [tx (endAt rs i), .ref p6])) := (same_upd hp6).trans (same_upd ht7)
        have s7 := b5.same.trans s6
        have n67 : p6 ≠ t7 := fun z => by rw [← z, upd_same] at ht7; cases ht7
        have hMA : MarkAt (upd (upd H5 p6 (.tup (ts.map V.ref))) t7 (.tup [tx (endAt rs i), .ref p6])) t7 (markOf kd (endAt rs i, waysAt rs i)) := by
          refine ⟨p6, ts, upd_same, by rw [upd_ne n67, upd_same], lT, fun i t y h1 h2 => s6 _ _ (kT i t y h1 h2)⟩
        generalize (upd (upd H5 p6 (.tup (ts.map V.ref))) t7 (.tup [tx (endAt rs i), .ref p6])) = H6 at *
        have n6 := n4.mono s7
        have e6 := s7 _ _ e4
        have em : (marks kd rs)[i]? = some (markOf kd (endAt rs i, waysAt rs i)) := by
          unfold marks
          rw [List.getElem?_map, List.getElem?_eq_getElem hi', ends_at hi']
          rfl
        have hlen : (firsts ((marks kd rs).take i)).length < 1000 := by
          have := firsts_len ((marks kd rs).take i)
          rw [List.length_take, hml] at this
          have := R.le
          omega
        have hnl : (List.map nn (nums ((marks kd rs).take i))).length < sizeLine := line_lt (by rw [List.length_map, nums_len, List.length_take, hml]; have := R.le; omega)
        refine ⟨_, rfl, .inl ⟨rfl, _, SqL.of e6⟩, _, rfl, M, _, rfl, n6, _, rfl, _, rfl, M, _, rfl, n6, hlen, t7, _, _, rfl, hMA, n6, rfl, hlen, ?_, ?_⟩
        · intro j hj
          have hmem := List.mem_of_getElem? hj
          have ej : ix (firsts ((marks kd rs).take i)) (markOf kd (endAt rs i, waysAt rs i)) = j := by
            obtain ⟨hlt, e⟩ := List.getElem?_eq_some_iff.mp hj
            rw [← e]
            exact ix_at (nodup_firsts _) hlt
          refine ⟨G, _, _, rfl, rfl, e6, hnl, (s4.trans s7).put hG2, ?_, ?_, _, _, _, rfl⟩
          · rw [take_snoc em, firsts_snoc, if_pos hmem]
            exact n6.put e6
          · rw [upd_same, take_snoc em, nums_snoc, firsts_snoc, if_pos hmem, ej, List.map_append]
            rfl
        · intro hnm H7 h7 n7
          have e7 : H7 G = some (.lst ((nums ((marks kd rs).take i)).map nn)) := by rw [h7 G nGM]; exact e6
          have s8 : Same H2 H7 := fun b x e => by
            have hb : b ≠ M := ne_of_none e hM
            rw [h7 b hb]
            exact (s4.trans s7) _ _ e
          refine ⟨G, _, _, rfl, rfl, e7, hnl, s8.put hG2, ?_, ?_, _, _, _, rfl⟩
          · rw [take_snoc em, firsts_snoc, if_neg hnm]
            exact n7.put e7
          · rw [upd_same, take_snoc em, nums_snoc, firsts_snoc, if_neg hnm, ix_new hnm (nodup_firsts _), List.map_append]
            rfl
    · rintro σ H3 ⟨s4, n4, e4, z5, z6, z7, rfl⟩
      rw [List.take_of_length_le (by rw [hml, hl]; exact Nat.le_refl _)] at n4 e4
      have hc : (firsts (marks kd rs)).length < 1000 := by have := count_le kd (rs := rs); have := R.le; unfold count at *; omega
      refine ⟨_, rfl, M, _, rfl, n4, hc, _, rfl, rfl, _, rfl, ?_⟩
      by_cases e : count kd rs = many
      · rw [decide_eq_true (by show nn (count kd rs) = nn many; rw [e])]
        exact iteT ⟨_, rfl, q G _ H3 (s2.trans s4) hGH e4 (I.done Ti R L e)⟩
      · rw [decide_eq_false (by intro z; exact e (by have := V.int.inj z; unfold count; omega))]
        refine iteF ⟨_, rfl, _, rfl, M, _, rfl, n4, hc, ?_⟩
        have hg := I.grows R e
        have hcl := count_le kd (rs := rs)
        exact ⟨rs.length - count kd rs, by omega, found kd rs, count kd rs, G, _, _, _, _, _, s2.trans s4, e4, I.turn Ti R L, hcl, rfl, rfl⟩
end
end K70
namespace K70
open PySem PySem.Spec PyProof.Rows L2
/-- numbers by first places -/
def numD (ks : List Nat) : List (Key × V) := ks.zipIdx.map fun p => (Sum.inl (p.1 : Int), nn p.2)
theorem numD_len (ks : List Nat) : (numD ks).length = ks.length := by unfold numD; simp
theorem numD_snoc (ks : List Nat) (k : Nat) : numD (ks ++ [k]) = numD ks ++ [(Sum.inl (k : Int), nn ks.length)] := by
  unfold numD
  rw [List.zipIdx_append, List.map_append]
  simp
theorem numD_get (j : Nat) : ∀ (ks : List Nat) (o : Nat), valV ((ks.zipIdx o).map fun p => ((Sum.inl (p.1 : Int) : Key), nn p.2)) (Sum.inl (j : Int)) = if j ∈ ks then some (nn (o + ks.idxOf j)) else none
  | [], o => by
    rw [if_neg (by simp)]
    rfl
  | k :: ks, o => by
    rw [List.zipIdx_cons, List.map_cons]
    by_cases e : k = j
    · subst e
      rw [valV_pos rfl, if_pos List.mem_cons_self, List.idxOf_cons_self]
      rfl
    · rw [valV_neg (by intro z; exact e (by have := Sum.inl.inj z; omega)), numD_get j ks (o + 1)]
      by_cases h : j ∈ ks
      · have hx : (k :: ks).idxOf j = ks.idxOf j + 1 := by rw [List.idxOf_cons, show (k == j) = false by simpa using e]; rfl
        rw [if_pos h, if_pos (List.mem_cons_of_mem _ h), hx]
        refine congrArg some (congrArg V.int ?_)
        omega
      · rw [if_neg h, if_neg (by intro z; rcases List.mem_cons.mp z with z | z; exact e z.symm; exact h z)]
theorem numD_in {ks : List Nat} {j : Nat} (h : j ∈ ks) : valV (numD ks) (Sum.inl (j : Int)) = some (nn (ix ks j)) := by
  unfold numD
  rw [numD_get j ks 0, if_pos h, Nat.zero_add]
  rfl
theorem numD_out {ks : List Nat} {j : Nat} (h : j ∉ ks) : valV (numD ks) (Sum.inl (j : Int)) = none := by
  unfold numD
  rw [numD_get j ks 0, if_neg h]
theorem numD_put {ks : List Nat} {j : Nat} (h : j ∉ ks) : putK (numD ks) (Sum.inl (j : Int)) (nn ks.length) = numD (ks ++ [j]) := by
  rw [putK_new _ (numD_out h), numD_snoc]
section
variable {P : Program} {w : World} {K : PySem.W.Frag} {mg : Str → Option Value} {base : Heap} {C f : Addr} {fd : FuncData}
abbrev sNum : Stmt := top 23
abbrev nNum : List Str := ["rooms", "kinds", "order", "numbers", "at", "text", "there"]
theorem scNum : FnScope nNum ["rooms", "kinds"] (defScope sNum) := ⟨rfl, rfl, rfl, by decide +kernel, rfl, by decide +kernel, by decide +kernel⟩
def spNum : Sp := fun vs H Q _ => ∃ (a b B : Nat) (ls : Tx) (rs : List Rm) (kd : List Nat), vs = [.ref a, .ref b] ∧ RoomsAt H a rs ∧ H b = some (.lst (kd.map nn)) ∧ ROk ls B rs ∧ kd.length = rs.length ∧
  ∀ t O N order H', Same H H' → H' t = some (.tup [.ref O, .ref N]) → H' O = some (.lst (order.map nn)) → H' N = some (.dK (numD (kindsOf kd order))) → Numd rs kd order → Q (.ref t) H'
theorem ok_num (F : FnP K "numbered" "numbered" sNum f fd) (T : Txt K mg C) : FnOk P w K mg base CX0 1 f fd ["rooms", "kinds"] spNum := by
  refine okD F scNum (fun vs H Q E h => ?_) (fun cdv A outer s H vs Q E hr h => ?_)
  · obtain ⟨a, b, B, ls, rs, kd, rfl, _⟩ := h
    rfl
  · obtain ⟨a, b, B, ls, rs, kd, rfl, A0, eb, R, hkd, q⟩ := h
    refine ⟨_, pss_cons (ps_set (i := 2) scNum.nd rfl (.inl rfl) (pe_lst (pa_cons pe_int pa_nil)))
      (pss_cons (ps_set (i := 3) scNum.nd rfl (.inl rfl) (pe_disp (pps_cons (pe_ix ix_list (pv 1) pe_int (fun _ _ => rfl)) pe_int pps_nil) (by rfl) (by rfl) (fun z => by cases z) (by decide)))
      (pss_cons (ps_set (i := 4) scNum.nd rfl (.inl rfl) pe_int)
      (pss_cons (ps_while PassesOwn.never (pt_cmpR op_lt (pv 4) (pe_callB call_len_seq (by rfl) T.len PySem.boot_len (pa_cons (pv 2) pa_nil)) (nomark _))
        (pss_cons (ps_for PassesOwn.never rfl (pi_list (pe_ix ix_tup (pe_ix ix_list (pv 0) (pe_ix ix_list (pv 2) (pv 4) (fun _ _ => rfl)) (fun _ _ => rfl)) pe_int (fun _ _ => rfl))) (pg_tup rfl (pgs_cons (pg_name (i := 5) scNum.nd rfl (.inl rfl)) (pgs_cons (pg_name (i := 6) scNum.nd rfl (.inl rfl)) pgs_nil)))
          (pss_one (ps_if (pt_cmp (pc_dnotin (hu_of hr) (pe_ix ix_list (pv 1) (pv 6) (fun _ _ => rfl)) (pv 3))) (pss_cons (ps_dput (hu_of hr) (pv 3) (pe_ix ix_list (pv 1) (pv 6) (fun _ _ => rfl)) (pe_callB call_len_seq (by rfl) T.len PySem.boot_len (pa_cons (pv 2) pa_nil)) rfl)
            (pss_one (ps_expr (pe_bm PySem.F.plainAttrs_list PySem.F.slot_list_append PySem.F.type_list_append mt_append (pv 2) (pa_cons (pv 6) pa_nil))))) pss_nil)))
        (pss_one (ps_aug (i := 4) scNum.nd rfl (.inl rfl) pe_int ip_add))))
      (pss_one (ps_ret (pe_tup (pa_cons (pv 2) (pa_cons (pv 3) pa_nil)))))))), ?_⟩
    refine ⟨line_ok (by decide), fun O hO => ?_⟩
    intro N hN
    have nNO : N ≠ O := fun z => by rw [z, upd_same] at hN; cases hN
    have hHN : H N = none := by rw [upd_ne nNO] at hN; exact hN
    have s0 : Same H (upd (upd H O (.lst [.int 0])) N (.dK [])) := (same_upd hO).trans (same_upd hN)
    have h0 : 0 < kd.length := by rw [hkd]; exact R.pos
    refine ⟨_, rfl, b, _, _, _, rfl, rfl, SqL.of (s0 _ _ eb), atI_nat (j := 0) (map_at (d := 0) h0), upd_same, [(Sum.inl ((kd.getD 0 0 : Nat) : Int), .int 0)], rfl, by show 1 ≤ 15; decide, ?_⟩
    have e1 : mergeK [] [(Sum.inl ((kd.getD 0 0 : Nat) : Int), V.int 0)] = numD (kindsOf kd [0]) := by
      unfold mergeK kindsOf numD
      rfl
    rw [e1]
    have s1 : Same H (upd (upd (upd H O (.lst [.int 0])) N (.dK [])) N (.dK (numD (kindsOf kd [0])))) := s0.put hHN
    have eO : (upd (upd (upd H O (.lst [.int 0])) N (.dK [])) N (.dK (numD (kindsOf kd [0])))) O = some (.lst (([0] : List Nat).map nn)) := by
      rw [upd_ne (Ne.symm nNO), upd_ne (Ne.symm nNO), upd_same]
      rfl
    have eN : (upd (upd (upd H O (.lst [.int 0])) N (.dK [])) N (.dK (numD (kindsOf kd [0])))) N = some (.dK (numD (kindsOf kd [0]))) := upd_same
    revert s1 eO eN
    generalize (upd (upd (upd H O (.lst [.int 0])) N (.dK [])) N (.dK (numD (kindsOf kd [0])))) = H1
    intro s1 eO eN
    refine ⟨fun m σ H' => ∃ (order : List Nat) (i : Nat) (z1 z2 : Option V), Same H H' ∧ H' O = some (.lst (order.map nn)) ∧ H' N = some (.dK (numD (kindsOf kd order))) ∧ NInv rs kd order i ∧ m = rs.length - i ∧ σ = [some (.ref a), some (.ref b), some (.ref O), some (.ref N), some (nn i), z1, z2],
      ⟨_, [0], 0, none, none, s1, eO, eN, NInv.start R, rfl, rfl⟩, ?_⟩
    rintro m σ H2 ⟨order, i, z1, z2, s2, e2, n2, I, rfl, rfl⟩
    refine ⟨_, rfl, _, rfl, O, _, rfl, .inl (SqL.of e2), _, _, rfl, rfl, _, rfl, ?_⟩
    rw [List.length_map]
    by_cases hi : i < order.length
    · rw [decide_eq_true (by omega : (i : Int) < (order.length : Int))]
      refine iteT ⟨Less _ _, less_ok, ?_⟩
      have ei := List.getElem?_eq_getElem hi
      have hk := I.lt _ (List.getElem_mem hi)
      generalize order[i] = k at ei hk
      have hR := R.room_at hk
      obtain ⟨vs, t, p, ws, e3, hl, e4, e5, e6, l6, k6⟩ := (A0.mono s2).room hk
      have eo : (order.map nn)[i]? = some (nn k) := by rw [List.getElem?_map, ei]; rfl
      refine ⟨_, rfl, _, rfl, _, rfl, O, _, _, _, rfl, rfl, SqL.of e2, atI_nat eo, a, vs, _, _, rfl, rfl, SqL.of e3, atI_nat e4, t, _, 1, .ref p, rfl, rfl, SqT.of e5, rfl, p, rfl, ⟨ws, SqL.of e6⟩, ?_⟩
      have hp := A0
      obtain ⟨vs0, t0, p0, ws0, f3, _, f4, f5, f6, _, g6⟩ := A0.room hk
      have q3 := e3.symm.trans (s2 _ _ f3)
      cases q3
      have q4 := e4.symm.trans f4
      cases q4
      have q5 := e5.symm.trans (s2 _ _ f5)
      cases q5
      have q6 := e6.symm.trans (s2 _ _ f6)
      cases q6
      refine for_it (walk_list (a := p) (xs := ws)) (fun j σ H3 => ∃ (ord : List Nat) (z1 z2 : Option V), Same H H3 ∧ H3 O = some (.lst (ord.map nn)) ∧ H3 N = some (.dK (numD (kindsOf kd ord))) ∧ NInv rs kd ord i ∧ order <+: ord ∧ (∀ y ∈ (waysAt rs k).take j, kd.getD y.2 0 ∈ kindsOf kd ord) ∧
        σ = [some (.ref a), some (.ref b), some (.ref O), some (.ref N), some (nn i), z1, z2]) ⟨order, z1, z2, s2, e2, n2, I, List.prefix_rfl, fun y h => by simp at h, rfl⟩ (fun j σ H3 _ h => by obtain ⟨_, _, _, s3, _⟩ := h; exact SqL.of (s3 _ _ f6)) ?_ ?_
      · rintro j x σ H3 H4 hj ⟨ord, z1, z2, s3, e7, n7, J, pre, cl, rfl⟩ ⟨rfl, ex⟩
        have hj' : j < (waysAt rs k).length := by omega
        obtain ⟨u, rfl, eu⟩ := g6 j x _ ex (List.getElem?_eq_getElem hj')
        have hw := hR.2.2.2 _ (List.getElem_mem hj')
        have hsn := take_snoc (List.getElem?_eq_getElem hj')
        generalize (waysAt rs k)[j] = y at *
        have hwk : y.2 < kd.length := by rw [hkd]; exact hw.2.2
        refine ⟨u, _, rfl, SqT.of (s3 _ _ eu), rfl, _, _, rfl, _, _, rfl, rfl, ?_⟩
        have ekb := s3 _ _ eb
        refine ⟨_, rfl, _, rfl, b, _, _, _, rfl, rfl, SqL.of ekb, atI_nat (map_at (d := 0) hwk), _, rfl, N, _, rfl, DGet.k (k := Sum.inl ((kd.getD y.2 0 : Nat) : Int)) n7, ?_⟩
        have pre2 := addK_pre kd ord y.2
        have mem2 := addK_mem kd ord y.2
        have J2 := J.add hw.2.2
        have cl2 : ∀ v ∈ (waysAt rs k).take (j + 1), kd.getD v.2 0 ∈ kindsOf kd (addK kd ord y.2) := fun v hv => by
          rw [hsn] at hv
          rcases List.mem_append.mp hv with h | h
          · exact (kindsOf_pre pre2).subset (cl v h)
          · rw [List.mem_singleton.mp h]; exact mem2
        have hol : ord.length ≤ rs.length := J.len_le
        by_cases hin : kd.getD y.2 0 ∈ kindsOf kd ord
        · rw [numD_in hin]
          refine ⟨false, rfl, iteF ?_⟩
          have ea : addK kd ord y.2 = ord := if_pos hin
          rw [ea] at cl2
          exact ⟨ord, _, _, s3, e7, n7, J, pre, cl2, rfl⟩
        · rw [numD_out hin]
          refine ⟨true, rfl, iteT ?_⟩
          have ea : addK kd ord y.2 = ord ++ [y.2] := if_neg hin
          rw [ea] at cl2 J2 pre2
          have hkl : (kindsOf kd ord).length = ord.length := by unfold kindsOf; rw [List.length_map]
          refine ⟨_, rfl, O, _, rfl, .inl (SqL.of e7), _, rfl, _, rfl, _, rfl, b, _, _, _, rfl, rfl, SqL.of ekb, atI_nat (map_at (d := 0) hwk), N, _, rfl, DPut.k (k := Sum.inl ((kd.getD y.2 0 : Nat) : Int)) n7 (line_lt (by rw [numD_len, hkl]; have := R.le; omega)), ?_⟩
          have eput : putK (numD (kindsOf kd ord)) (Sum.inl ((kd.getD y.2 0 : Nat) : Int)) (V.int ((ord.map nn).length : Nat)) = numD (kindsOf kd (ord ++ [y.2])) := by
            rw [List.length_map, ← hkl]
            rw [numD_put hin]
            unfold kindsOf
            rw [List.map_append]
            rfl
          rw [eput]
          have e8 : (upd H4 N (.dK (numD (kindsOf kd (ord ++ [y.2]))))) O = some (.lst (ord.map nn)) := by rw [upd_ne (Ne.symm nNO)]; exact e7
          refine ⟨_, rfl, .inl ⟨rfl, _, SqL.of e8⟩, _, rfl, O, _, _, rfl, rfl, e8, line_lt (by rw [List.length_map]; have := R.le; omega), ?_⟩
          refine ⟨ord ++ [y.2], _, _, (s3.put hHN).put hO, ?_, ?_, J2, pre.trans pre2, cl2, rfl⟩
          · rw [upd_same, List.map_append]
            rfl
          · rw [upd_ne nNO, upd_same]
      · rintro σ H3 ⟨ord, z1, z2, s3, e7, n7, J, pre, cl, rfl⟩
        have ei2 : ord[i]? = some k := by
          obtain ⟨r, rfl⟩ := pre
          rw [List.getElem?_append_left hi]
          exact ei
        rw [l6, List.take_length] at cl
        have J2 := J.next ei2 cl
        refine ⟨_, rfl, _, _, rfl, rfl, ?_⟩
        have hol : ord.length ≤ rs.length := J.len_le
        have hpl := pre.length_le
        exact ⟨rs.length - (i + 1), by omega, ord, i + 1, _, _, s3, e7, n7, J2, rfl, rfl⟩
    · rw [decide_eq_false (by omega)]
      refine iteF ⟨_, rfl, _, rfl, two_ok, fun t ht => ?_⟩
      exact q t O N order _ (s2.up ht) upd_same ((same_upd ht) _ _ e2) ((same_upd ht) _ _ n2) (I.done (by omega))
end
end K70
namespace K70
open PySem PySem.Spec PyProof.Rows L2
/-- what a new instance leaves as it was -/
theorem same_new {H H' : Hp} {x dx : Addr} {o1 o2 : HO} (hx : H x = none) (hdx : H dx = none) (s : SameBut x (upd (upd H dx o1) x o2) H') : Same H H' := fun b u e => by
  have nx : b ≠ x := ne_of_none e hx
  have nd : b ≠ dx := ne_of_none e hdx
  exact s b u nx (by rw [upd_ne nx, upd_ne nd]; exact e)
theorem same_two {H : Hp} {x dx : Addr} {o1 o2 : HO} (hx : H x = none) (hdx : H dx = none) : Same H (upd (upd H dx o1) x o2) := fun b u e => by
  rw [upd_ne (ne_of_none e hx), upd_ne (ne_of_none e hdx)]
  exact e
section
variable {P : Program} {w : World} {K : PySem.W.Frag} {mg : Str → Option Value} {base : Heap} {C f : Addr} {fd : FuncData}
abbrev sLeast : Stmt := top 24
abbrev nLeast : List Str := ["machine", "rooms", "sures", "kinds", "order", "numbers", "made", "k", "end", "ways", "led", "text", "there", "kind", "sure"]
theorem scLeast : FnScope nLeast ["machine"] (defScope sLeast) := ⟨rfl, rfl, rfl, by decide +kernel, rfl, by decide +kernel, by decide +kernel⟩
def spLeast (C : Addr) : Sp := fun vs H Q _ => ∃ (p B : Nat) (m : M), vs = [.ref p] ∧ MAt C H p m ∧ MOk B m ∧ B ≤ 100000 ∧
  ∀ t x y L H', Same H H' → H' t = some (.tup [.ref x, y]) → MAt C H' x L → MOk (B + B) L → Least m L → Q (.ref t) H'
theorem ok_least (F : FnP K "least_with" "least_with" sLeast f fd) (T : Txt K mg C) (cRm : Met P w K mg base 1 C "rooms" (spRooms C)) (cLt : Met P w K mg base 1 C "letters" (spLets C)) (cFi : Met P w K mg base 1 C "first" (spFirst C))
    (cS : Cal P w K mg base 2 "sures_of" spSures []) (cE : Cal P w K mg base 1 "told_early" spEarly []) (cK : Cal P w K mg base 1 "kinds_of" spKinds []) (cN : Cal P w K mg base 1 "numbered" spNum [])
    (cM : MakK P w K mg base 4 "Machine" C 2 ["first"] (spInit C) gApp) : FnOk P w K mg base CX0 6 f fd ["machine"] (spLeast C) := by
  refine okD F scLeast (fun vs H Q E h => ?_) (fun cdv A outer s H vs Q E hr h => ?_)
  · obtain ⟨p, B, m, rfl, _⟩ := h
    rfl
  · obtain ⟨p, B, m, rfl, Mt, O, hB, q⟩ := h
    refine ⟨_, pss_cons (ps_set (i := 1) scLeast.nd rfl (.inl rfl) (mt0 cRm hr (by decide) (pv 0)))
      (pss_cons (ps_set (i := 2) scLeast.nd rfl (.inl rfl) (ca cS hr (by decide) (by rfl) (pa_cons (pv 1) pa_nil)))
      (pss_cons (ps_set (i := 1) scLeast.nd rfl (.inl rfl) (ca cE hr (by decide) (by rfl) (pa_cons (pv 1) (pa_cons (pv 2) pa_nil))))
      (pss_cons (ps_set (i := 3) scLeast.nd rfl (.inr rfl) (ca cK hr (by decide) (by rfl) (pa_cons (pv 1) pa_nil)))
      (pss_cons (ps_asg (ca cN hr (by decide) (by rfl) (pa_cons (pv 1) (pa_cons (pv 3) pa_nil))) (pg_tup rfl (pgs_cons (pg_name (i := 4) scLeast.nd rfl (.inl rfl)) (pgs_cons (pg_name (i := 5) scLeast.nd rfl (.inr rfl)) pgs_nil))))
      (pss_cons (ps_set (i := 6) scLeast.nd rfl (.inl rfl) (pe_lst pa_nil))
      (pss_cons (ps_for PassesOwn.never rfl (pi_list (pv 4)) (pg_name (i := 7) scLeast.nd rfl (.inl rfl))
        (pss_cons (ps_asg (pe_ix ix_list (pv 1) (pv 7) (fun _ _ => rfl)) (pg_tup rfl (pgs_cons (pg_name (i := 8) scLeast.nd rfl (.inl rfl)) (pgs_cons (pg_name (i := 9) scLeast.nd rfl (.inl rfl)) pgs_nil))))
        (pss_one (ps_expr (pe_bm PySem.F.plainAttrs_list PySem.F.slot_list_append PySem.F.type_list_append mt_append (pv 6) (pa_cons (pe_tup (pa_cons (pv 8)
          (pa_cons (pe_lc (own := [("text", 11), ("there", 12)]) (g := gTup K 2 (gCons (gName 11) (gCons (gName 12) gNil))) (tt := tYes) rfl scLeast.nd (pi_list (pv 9)) (blkOk_by (N := nLeast) (sc := defScope sLeast) (by decide +kernel))
            (fun _ _ _ _ _ => pg_tup rfl (pgs_cons (pg_name (i := 11) scLeast.nd rfl (Or.inl rfl)) (pgs_cons (pg_name (i := 12) scLeast.nd rfl (Or.inl rfl)) pgs_nil))) (fun _ _ _ _ _ => pts_nil)
            (fun _ _ _ _ _ => pe_tup (pa_cons (pv 11) (pa_cons (pe_dget (hu_of hr) (pv 5) (pe_ix (r := rIxL K) ix_list (pv 3) (pv 12) (fun _ _ => rfl)) (fun _ _ => rfl)) pa_nil)))) pa_nil))) pa_nil))))))
      (pss_cons (ps_setLc (i := 10) (own := [("kind", 13), ("sure", 14)]) (g := gTup K 2 (gCons (gName 13) (gCons (gName 14) gNil))) (tt := tYes) rfl scLeast.nd rfl rfl (sw_true rfl rfl rfl (by decide +kernel)) (pi_zipS (by rfl) T.zip (pa_cons (pv 3) (pa_cons (pv 2) pa_nil))) (blkOk_by (N := nLeast) (sc := defScope sLeast) (by decide +kernel))
          (fun _ _ _ _ _ => pg_tup rfl (pgs_cons (pg_name (i := 13) scLeast.nd rfl (Or.inl rfl)) (pgs_cons (pg_name (i := 14) scLeast.nd rfl (Or.inl rfl)) pgs_nil))) (fun _ _ _ _ _ => pts_nil)
          (fun _ _ _ _ _ => pe_tup (pa_cons (pe_dget1 (hu_of hr) (pv 5) (pv 13) ⟨rfl, rfl, rfl, rfl⟩) (pa_cons (pv 14) pa_nil))))
      (pss_one (ps_ret (pe_tup (pa_cons (mkK cM hr (by decide) (by rfl) (pa_cons (mt0 cLt hr (by decide) (pv 0)) (pa_cons (pv 6) pa_nil)) (pk_cons (pe_op op_add_str (mt0 cFi hr (by decide) (pv 0)) (pe_ix ix_list (pv 2) pe_int (fun _ _ => rfl))) pk_nil)) (pa_cons (pv 10) pa_nil)))))))))))), ?_⟩
    obtain ⟨dx, l, e, _⟩ := id Mt
    refine ⟨_, rfl, p, dx, _, rfl, e, f_none m l, p, m, rfl, Mt, O.r.le, fun a1 H1 s1 _ A1 => ?_⟩
    refine ⟨_, rfl, a1, B, m.letters, m.rooms, rfl, A1, O.l, O.r, by omega, fun aS su H2 s2 _ e2 S => ?_⟩
    refine ⟨_, rfl, _, rfl, a1, aS, B, m.letters, m.rooms, su, rfl, A1.mono s2, e2, O.r, S, O.l.le, by omega, fun a2 H3 s3 _ A3 => ?_⟩
    have R3 := early_ok O.r S
    have Ti := early_tight O.r S
    refine ⟨_, rfl, a2, B + B, m.letters, early su m.rooms, rfl, A3, O.l, R3, Ti, fun aK kd H4 s4 _ e4 Ks => ?_⟩
    refine ⟨_, rfl, _, rfl, a2, aK, B + B, m.letters, early su m.rooms, kd, rfl, A3.mono s4, e4, R3, Ks.len, fun t5 aO aN order H5 s5 et5 eO5 eN5 Nd => ?_⟩
    refine ⟨t5, _, rfl, SqT.of et5, rfl, _, _, rfl, _, _, rfl, rfl, ?_⟩
    refine ⟨Nat.zero_le _, fun D hD => ?_⟩
    have A5 := (A3.mono s4).mono s5
    have ek5 := s5 _ _ e4
    generalize hrs : early su m.rooms = rs at *
    have hol : order.length ≤ 200 := Nat.le_trans Nd.len R3.le
    refine ⟨_, rfl, aO, rfl, ⟨_, SqL.of ((same_upd hD) _ _ eO5)⟩, for_it (walk_list (a := aO) (xs := order.map nn)) (fun i σ H6 => Bld RoomAt H5 D H6 ((made rs kd order).take i) ∧ ∃ z1 z2 z3, σ = [some (.ref p), some (.ref a2), some (.ref aS), some (.ref aK), some (.ref aO), some (.ref aN), some (.ref D), z1, z2, z3, none, none, none, none, none]) ⟨Bld.start hD, none, none, none, rfl⟩ (fun i σ H6 _ h => SqL.of (h.1.same _ _ eO5)) ?_ ?_⟩
    · rintro i x σ H6 H7 hi ⟨b6, z1, z2, z3, rfl⟩ ⟨rfl, ex⟩
      have hi' : i < order.length := by rw [List.length_map] at hi; exact hi
      have ei := List.getElem?_eq_getElem hi'
      have hk := Nd.lt _ (List.getElem_mem hi')
      have hcl := Nd.closed _ (List.getElem_mem hi')
      have hx : x = nn order[i] := by
        rw [List.getElem?_map, ei] at ex
        exact (Option.some.inj ex).symm
      subst hx
      generalize order[i] = k at *
      have hR := R3.room_at hk
      obtain ⟨vs, t, a, ws, e7, _, e8, e9, e10, l10, k10⟩ := A5.room hk
      refine ⟨_, rfl, _, rfl, a2, vs, _, _, rfl, rfl, SqL.of (b6.same _ _ e7), atI_nat e8, t, _, rfl, SqT.of (b6.same _ _ e9), rfl, _, _, rfl, _, _, rfl, rfl, ?_⟩
      obtain ⟨acc, eD, lD, _⟩ := b6.ex
      refine ⟨_, rfl, .inl ⟨rfl, _, SqL.of eD⟩, ?_⟩
      refine ⟨_, rfl, _, rfl, a, rfl, ⟨ws, SqL.of (b6.same _ _ e10)⟩, fun D2 hD2 => lc_it (walk_list (a := a) (xs := ws)) (fun j H8 => Bld WayAt H7 D2 H8 ((madeRoom rs kd order k).2.take j)) (Bld.start hD2) (fun j H8 _ h => SqL.of (h.same _ _ (b6.same _ _ e10))) ?_ ?_⟩
      · rintro j x H8 H9 hj b8 ⟨rfl, ex⟩
        have hj' : j < (waysAt rs k).length := by omega
        obtain ⟨u, rfl, eu⟩ := k10 j x _ ex (List.getElem?_eq_getElem hj')
        have hw := hR.2.2.2 _ (List.getElem_mem hj')
        have hwk : (waysAt rs k)[j].2 < kd.length := by rw [Ks.len]; exact hw.2.2
        have s8 := b6.same.trans b8.same
        refine ⟨u, _, rfl, SqT.of (s8 _ _ eu), rfl, _, _, rfl, _, _, rfl, rfl, rfl, ?_⟩
        refine ⟨_, rfl, _, rfl, _, rfl, _, rfl, aK, _, _, _, rfl, rfl, SqL.of (s8 _ _ ek5), atI_nat (map_at (d := 0) hwk), aN, nn (idxK kd order (waysAt rs k)[j].2), rfl, ?_, two_ok, fun t6 ht6 => ?_⟩
        · have h1 := DGet.k (k := Sum.inl ((kd.getD (waysAt rs k)[j].2 0 : Nat) : Int)) (s8 _ _ eN5)
          rw [numD_in (hcl _ (List.getElem_mem hj'))] at h1
          exact h1
        obtain ⟨vs6, ev6, _, _⟩ := b8.ex
        have n6 : t6 ≠ D2 := fun z => by rw [z, ev6] at ht6; cases ht6
        have ej : (madeRoom rs kd order k).2[j]? = some ((waysAt rs k)[j].1, idxK kd order (waysAt rs k)[j].2) := by
          unfold madeRoom
          rw [List.getElem?_map, List.getElem?_eq_getElem hj']
          rfl
        obtain ⟨acc6, ea, la, b9⟩ := b8.snoc mono_way hD2 (same_upd (o := .tup [tx (waysAt rs k)[j].1, nn (idxK kd order (waysAt rs k)[j].2)]) ht6) (v := .ref t6) (x := ((waysAt rs k)[j].1, idxK kd order (waysAt rs k)[j].2)) ⟨t6, rfl, by rw [off_at n6, upd_same]⟩
        refine ⟨acc6, ea, line_lt (by rw [la, List.length_take]; unfold madeRoom; rw [List.length_map]; have := O.l.le; omega), ?_⟩
        rw [take_snoc ej]
        exact b9
      · rintro H8 b8
        have A8 := b8.done mono_way
        rw [l10, List.take_of_length_le (by unfold madeRoom; simp)] at A8
        refine ⟨two_ok, fun t7 ht7 => ?_⟩
        have eD5 := b8.same _ _ eD
        have nD : D2 ≠ D := fun z => by rw [z, eD] at hD2; cases hD2
        have hm := room_mk (r := madeRoom rs kd order k) eD5 nD A8 ht7
        obtain ⟨acc8, ea, la, b10⟩ := b6.snoc mono_room hD (b8.same.trans (same_upd ht7)) hm
        refine ⟨D, acc8, _, rfl, rfl, ea, line_lt (by rw [la, List.length_take, made_len]; omega), ?_, _, _, _, rfl⟩
        have ei2 : (made rs kd order)[i]? = some (madeRoom rs kd order k) := by
          unfold made
          rw [List.getElem?_map, ei]
          rfl
        rw [take_snoc ei2]
        exact b10
    rintro σ H6 ⟨b6, z1, z2, z3, rfl⟩
    have A6 : RoomsAt H6 D (made rs kd order) := by
      have A6 := b6.done mono_room
      rw [List.length_map, List.take_of_length_le (by rw [made_len]; exact Nat.le_refl _)] at A6
      exact A6
    have s6 := b6.same
    have s26 : Same H2 H6 := s3.trans (s4.trans (s5.trans s6))
    have ezl : (kd.map nn).length = (su.map tx).length := by
      rw [List.length_map, List.length_map, Ks.len, S.len, ← hrs, early_len]
    refine ⟨_, rfl, _, rfl, _, _, _, _, rfl, SqL.of (s6 _ _ ek5), SqL.of (s26 _ _ e2), fun D3 hD3 => lc_it (walk_zipS ezl) (fun i H7 => Same H6 H7 ∧ ∃ vs, H7 D3 = some (.lst vs) ∧ vs.length = i) ⟨same_upd hD3, [], upd_same, rfl⟩ (fun i H7 _ h => ⟨SqL.of (h.1 _ _ (s6 _ _ ek5)), SqL.of (h.1 _ _ (s26 _ _ e2))⟩) ?_ ?_⟩
    · rintro i x H7 H8 hi ⟨s7, vs, e7, l7⟩ ⟨t, u, v, rfl, hn, rfl, eu, ev⟩
      replace eu : (kd.map nn)[i]? = some u := eu
      have hi' : i < kd.length := by rw [List.length_map] at hi; exact hi
      rw [map_at (d := 0) hi'] at eu
      cases eu
      refine ⟨t, _, rfl, SqT.of upd_same, rfl, _, _, rfl, _, _, rfl, rfl, rfl, ?_⟩
      have eN8 := (same_upd (o := .tup [nn (kd.getD i 0), v]) hn) _ _ (s7 _ _ (s6 _ _ eN5))
      refine ⟨_, rfl, aN, rfl, .inl ⟨_, .inl eN8⟩, _, rfl, _, DGet.k (k := Sum.inl ((kd.getD i 0 : Nat) : Int)) eN8, _, rfl, two_ok, fun t8 ht8 => ?_⟩
      have e9 := (same_upd (o := .tup [(valV (numD (kindsOf kd order)) (Sum.inl ((kd.getD i 0 : Nat) : Int))).getD .non, v]) ht8) _ _ ((same_upd (o := .tup [nn (kd.getD i 0), v]) hn) _ _ e7)
      refine ⟨vs, e9, line_lt (by rw [l7]; have := R3.le; have := Ks.len; omega), ((s7.up hn).up ht8).put hD3, _, upd_same, by rw [List.length_append, l7]; rfl⟩
    rintro H7 ⟨s7, _⟩
    have s27 := s26.trans s7
    have s07 : Same H H7 := s1.trans (s2.trans s27)
    have e07 := s07 _ _ e
    have h0 : 0 < su.length := by rw [S.len]; exact O.r.pos
    have eS7 := s27 _ _ e2
    refine ⟨_, rfl, p, dx, _, rfl, e07, f_none m l, p, m, rfl, Mt.mono s07, _, rfl, ?_⟩
    refine ⟨_, rfl, p, dx, _, rfl, e07, f_none m l, p, m, rfl, Mt.mono s07, _, rfl, aS, _, _, _, rfl, rfl, SqL.of eS7, atI_nat (j := 0) (map_at (d := []) h0), _, _, rfl, rfl, ?_, rfl, rfl, ?_⟩
    · rw [ss_len, ss_len]
      have h1 := O.fl
      have h2 := S.len_le O.r O.r.pos
      exact line_ok (by omega)
    intro x dx2 hx hdx hne
    rw [ss_app]
    have OL : MOk (B + B) (leastM m su kd order) := least_ok O S (by rw [hrs]; exact Nd)
    have A7 : RoomsAt (upd (upd H7 dx2 (.own x)) x (.ins C dx2 [])) D (leastM m su kd order).rooms := by
      show RoomsAt _ D (made (early su m.rooms) kd order)
      rw [hrs]
      exact (A6.mono s7).mono (same_two hx hdx)
    refine ⟨x, D, dx2, B + B, leastM m su kd order, rfl, OL, by omega, A7, upd_same, fun H8 b8 M8 => ⟨rfl, ?_⟩⟩
    have s8 := same_new hx hdx b8
    refine ⟨_, rfl, two_ok, fun t9 ht9 => ?_⟩
    refine q t9 x _ (leastM m su kd order) _ ((s07.trans s8).up ht9) upd_same (M8.mono (same_upd ht9)) OL ?_
    exact least_is O S (by rw [hrs]; exact Ks) (by rw [hrs]; exact Nd)
/-! ### least_of -/
abbrev sLeastOf : Stmt := top 25
theorem scLeastOf : FnScope ["machine"] ["machine"] (defScope sLeastOf) := ⟨rfl, rfl, rfl, by decide +kernel, rfl, by decide +kernel, by decide +kernel⟩
def spLeastOf (C : Addr) : Sp := fun vs H Q _ => ∃ (p B : Nat) (m : M), vs = [.ref p] ∧ MAt C H p m ∧ MOk B m ∧ B ≤ 100000 ∧ ∀ x L H', Same H H' → MAt C H' x L → MOk (B + B) L → Least m L → Q (.ref x) H'
theorem ok_leastOf (F : FnP K "least_of" "least_of" sLeastOf f fd) (T : Txt K mg C) (cW : Cal P w K mg base 6 "least_with" (spLeast C) []) : FnOk P w K mg base CX0 7 f fd ["machine"] (spLeastOf C) := by
  refine okD F scLeastOf (fun vs H Q E h => ?_) (fun cdv A outer s H vs Q E hr h => ?_)
  · obtain ⟨p, B, m, rfl, _⟩ := h
    rfl
  · obtain ⟨p, B, m, rfl, Mt, O, hB, q⟩ := h
    refine ⟨_, pss_one (ps_ret (pe_ix ix_tup (ca cW hr (by decide) (by rfl) (pa_cons (pv 0) pa_nil)) pe_int (fun _ _ => rfl))), ?_⟩
    exact ⟨_, rfl, p, B, m, rfl, Mt, O, hB, fun t x y L H1 s1 et Mx OL Ls => ⟨t, _, 0, _, rfl, rfl, SqT.of et, rfl, q x L H1 s1 Mx OL Ls⟩⟩
end
end K70
namespace K70
open PySem PySem.Spec PyProof.Rows L2
def keyT (t : Th) : List Key := [Sum.inl (t.1 : Int), Sum.inl (t.2.1 : Int), Sum.inr (SS t.2.2.1), Sum.inr (SS t.2.2.2)]
def ThAt (H : Hp) (a : Addr) (t : Th) : Prop := H a = some (.tup [nn t.1, nn t.2.1, tx t.2.2.1, tx t.2.2.2])
theorem ThAt.key {H : Hp} {a : Addr} {t : Th} (h : ThAt H a t) : H a = some (.tup ((keyT t).map kV)) := h
def ThR (H : Hp) (v : V) (t : Th) : Prop := ∃ a, v = .ref a ∧ ThAt H a t
theorem mono_th : Mono ThR := fun H H' v t s h => by
  obtain ⟨a, e, q⟩ := h
  exact ⟨a, e, s _ _ q⟩
theorem way_ix {ls : Tx} {rs : List Rm} (L : LOk ls) {k i : Nat} (hi : i < ls.length) (hw : i < (waysAt rs k).length) : wayAt ls rs k ls[i] = (waysAt rs k)[i] := by
  unfold wayAt
  rw [List.Nodup.idxOf_getElem L.nd i hi]
  exact getD_of (List.getElem?_eq_getElem hw)
section
variable {P : Program} {w : World} {K : PySem.W.Frag} {mg : Str → Option Value} {base : Heap} {C f : Addr} {fd : FuncData}
/-! ### led_on -/
abbrev sLed : Stmt := top 28
abbrev nLed : List Str := ["one", "other", "thing", "j", "k", "more", "less", "found", "text", "there", "said", "last"]
theorem scLed : FnScope nLed ["one", "other", "thing"] (defScope sLed) := ⟨rfl, rfl, rfl, by decide +kernel, rfl, by decide +kernel, by decide +kernel⟩
def spLed (C : Addr) : Sp := fun vs H Q _ => ∃ (p a B : Nat) (m : M) (t : Th), vs = [.ref p, .ref p, .ref a] ∧ MAt C H p m ∧ MOk B m ∧ B ≤ 500000 ∧ ThAt H a t ∧ t.1 < m.rooms.length ∧ t.2.1 < m.rooms.length ∧ t.2.2.1.length ≤ 1000000 ∧ t.2.2.2.length ≤ 1000000 ∧
  ∀ D H', Same H H' → H D = none → LAt ThR H' D (m.letters.map (stepT m.letters m.rooms t)) → Q (.ref D) H'
theorem ok_led (F : FnP K "led_on" "led_on" sLed f fd) (T : Txt K mg C) (cR : Cal P w K mg base 2 "rests" spRests []) : FnOk P w K mg base CX0 3 f fd ["one", "other", "thing"] (spLed C) := by
  refine okD F scLed (fun vs H Q E h => ?_) (fun cdv A outer s H vs Q E hr h => ?_)
  · obtain ⟨p, a, B, m, t, rfl, _⟩ := h
    rfl
  · obtain ⟨p, a, B, m, ⟨j, k, more, less⟩, rfl, ⟨dx, l, e, A0⟩, O, hB, et, hj, hk, hm1, hm2, q⟩ := h
    dsimp only at hj hk hm1 hm2
    replace et : H a = some (.tup [nn j, nn k, tx more, tx less]) := et
    refine ⟨_, pss_cons (ps_asg (pv 2) (pg_tup rfl (pgs_cons (pg_name (i := 3) scLed.nd rfl (.inl rfl)) (pgs_cons (pg_name (i := 4) scLed.nd rfl (.inl rfl)) (pgs_cons (pg_name (i := 5) scLed.nd rfl (.inl rfl)) (pgs_cons (pg_name (i := 6) scLed.nd rfl (.inl rfl)) pgs_nil))))))
      (pss_cons (ps_set (i := 7) scLed.nd rfl (.inl rfl) (pe_lst pa_nil))
      (pss_cons (ps_for PassesOwn.never rfl (pi_zipS (by rfl) T.zip (pa_cons (pe_ix ix_tup (pe_ix ix_list (pe_fld (pv 0) rfl) (pv 3) (fun _ _ => rfl)) pe_int (fun _ _ => rfl)) (pa_cons (pe_ix ix_tup (pe_ix ix_list (pe_fld (pv 1) rfl) (pv 4) (fun _ _ => rfl)) pe_int (fun _ _ => rfl)) pa_nil)))
          (pg_tup rfl (pgs_cons (pg_tup rfl (pgs_cons (pg_name (i := 8) scLed.nd rfl (.inl rfl)) (pgs_cons (pg_name (i := 9) scLed.nd rfl (.inl rfl)) pgs_nil))) (pgs_cons (pg_tup rfl (pgs_cons (pg_name (i := 10) scLed.nd rfl (.inl rfl)) (pgs_cons (pg_name (i := 11) scLed.nd rfl (.inl rfl)) pgs_nil))) pgs_nil)))
        (pss_one (ps_expr (pe_bm PySem.F.plainAttrs_list PySem.F.slot_list_append PySem.F.type_list_append mt_append (pv 7) (pa_cons (pe_op op_catA (pe_tup (pa_cons (pv 9) (pa_cons (pv 11) pa_nil))) (ca cR hr (by decide) (by rfl) (pa_cons (pe_op op_add_str (pv 5) (pv 8)) (pa_cons (pe_op op_add_str (pv 6) (pv 10)) pa_nil)))) pa_nil)))))
      (pss_one (ps_ret (pv 7))))), ?_⟩
    refine ⟨_, rfl, a, _, rfl, SqT.of et, rfl, _, _, rfl, _, _, rfl, _, _, rfl, _, _, rfl, rfl, ?_⟩
    refine ⟨Nat.zero_le _, fun D hD => ?_⟩
    have e1 := (same_upd (o := .lst []) hD) _ _ e
    obtain ⟨vs1, t1, p1, ws1, f1, _, f2, f3, f4, l1, k1⟩ := A0.room hj
    obtain ⟨vs2, t2, p2, ws2, g1, _, g2, g3, g4, l2, k2⟩ := A0.room hk
    have s1 : Same H (upd H D (.lst [])) := same_upd hD
    have hj3 := (O.r.room_at hj).2.2.1
    have hk3 := (O.r.room_at hk).2.2.1
    refine ⟨_, rfl, p, C, dx, _, _, rfl, e1, T.cl, T.nM, f_made m l, _, rfl, l, vs1, _, _, rfl, rfl, SqL.of (s1 _ _ f1), atI_nat f2, t1, _, 1, .ref p1, rfl, rfl, SqT.of (s1 _ _ f3), rfl, ?_⟩
    refine ⟨_, rfl, p, C, dx, _, _, rfl, e1, T.cl, T.nM, f_made m l, _, rfl, l, vs2, _, _, rfl, rfl, SqL.of (s1 _ _ g1), atI_nat g2, t2, _, 1, .ref p2, rfl, rfl, SqT.of (s1 _ _ g3), rfl, ?_⟩
    have ezl : ws1.length = ws2.length := by omega
    refine ⟨_, _, ws1, ws2, rfl, SqL.of (s1 _ _ f4), SqL.of (s1 _ _ g4), for_it (walk_zipS (x := .ref p1) (y := .ref p2) ezl) (fun i σ H1 => Bld ThR H D H1 ((m.letters.map (stepT m.letters m.rooms (j, k, more, less))).take i) ∧ ∃ z1 z2 z3 z4, σ = [some (.ref p), some (.ref p), some (.ref a), some (nn j), some (nn k), some (tx more), some (tx less), some (.ref D), z1, z2, z3, z4]) ⟨Bld.start hD, none, none, none, none, rfl⟩ (fun i σ H1 _ h => ⟨SqL.of (h.1.same _ _ f4), SqL.of (h.1.same _ _ g4)⟩) ?_ ?_⟩
    · rintro i x σ H1 H2 hi ⟨b1, z1, z2, z3, z4, rfl⟩ ⟨u, x1, x2, rfl, hn, rfl, ex1, ex2⟩
      replace ex1 : ws1[i]? = some x1 := ex1
      replace ex2 : ws2[i]? = some x2 := ex2
      have hi1 : i < (waysAt m.rooms j).length := by omega
      have hi2 : i < (waysAt m.rooms k).length := by omega
      have hil : i < m.letters.length := by omega
      obtain ⟨u1, rfl, h1⟩ := k1 i x1 _ ex1 (List.getElem?_eq_getElem hi1)
      obtain ⟨u2, rfl, h2⟩ := k2 i x2 _ ex2 (List.getElem?_eq_getElem hi2)
      have w1 := (O.r.room_at hj).2.2.2 _ (List.getElem_mem hi1)
      have w2 := (O.r.room_at hk).2.2.2 _ (List.getElem_mem hi2)
      have est : stepT m.letters m.rooms (j, k, more, less) m.letters[i] = ((waysAt m.rooms j)[i].2, (waysAt m.rooms k)[i].2, rests (more ++ (waysAt m.rooms j)[i].1) (less ++ (waysAt m.rooms k)[i].1)) := by
        unfold stepT
        dsimp only
        rw [way_ix O.l hil hi1, way_ix O.l hil hi2]
      generalize (waysAt m.rooms j)[i] = y1 at *
      generalize (waysAt m.rooms k)[i] = y2 at *
      have su : Same H1 (upd H1 u (.tup [.ref u1, .ref u2])) := same_upd hn
      have s2 : Same H (upd H1 u (.tup [.ref u1, .ref u2])) := b1.same.trans su
      refine ⟨u, _, rfl, SqT.of upd_same, rfl, _, _, rfl, ⟨u1, _, rfl, SqT.of (s2 _ _ h1), rfl, _, _, rfl, _, _, rfl, rfl, ?_⟩⟩
      refine ⟨_, _, rfl, ⟨u2, _, rfl, SqT.of (s2 _ _ h2), rfl, _, _, rfl, _, _, rfl, rfl, rfl, ?_⟩⟩
      obtain ⟨vsD, eD, lD, _⟩ := b1.ex
      refine ⟨_, rfl, .inl ⟨rfl, _, SqL.of (su _ _ eD)⟩, ?_⟩
      refine ⟨_, rfl, _, rfl, two_ok, fun t5 ht5 => ?_⟩
      refine ⟨_, rfl, _, rfl, _, _, rfl, rfl, by rw [ss_len, ss_len]; exact line_ok (by omega), _, rfl, _, rfl, _, _, rfl, rfl, by rw [ss_len, ss_len]; exact line_ok (by omega), more ++ y1.1, less ++ y2.1, by rw [ss_app, ss_app]; rfl, by rw [List.length_append]; omega, by rw [List.length_append]; omega, fun t6 H6 s6 e6 => ?_⟩
      refine ⟨t5, t6, _, _, rfl, rfl, SqT.of (s6 _ _ upd_same), SqT.of e6, line_ok (by show 2 + 2 ≤ 16000000; decide), fun z => (nomatch z), fun _ z => (nomatch z), fun _ _ t7 ht7 => ?_⟩
      have s7 : Same H1 (upd H6 t7 (.tup ([nn y1.2, nn y2.2] ++ [tx (rests (more ++ y1.1) (less ++ y2.1)).1, tx (rests (more ++ y1.1) (less ++ y2.1)).2]))) := (((su.up ht5).trans s6).up ht7)
      have n7 : t7 ≠ D := fun z => by
        have := ((su.up ht5).trans s6) _ _ eD
        rw [← z, ht7] at this
        cases this
      obtain ⟨acc, ea, la, b2⟩ := b1.snoc mono_th hD s7 (v := .ref t7) (x := stepT m.letters m.rooms (j, k, more, less) m.letters[i]) ⟨t7, rfl, by unfold ThAt; rw [est, off_at n7, upd_same]; rfl⟩
      refine ⟨D, acc, _, rfl, rfl, ea, line_lt (by rw [la, List.length_take, List.length_map]; have := O.l.le; omega), ?_, _, _, _, _, rfl⟩
      rw [take_snoc (x := stepT m.letters m.rooms (j, k, more, less) m.letters[i]) (by rw [List.getElem?_map, List.getElem?_eq_getElem hil]; rfl)]
      exact b2
    · rintro σ H1 ⟨b1, z1, z2, z3, z4, rfl⟩
      have A1 := b1.done mono_th
      rw [List.take_of_length_le (by rw [List.length_map]; omega)] at A1
      exact ⟨_, rfl, q D H1 b1.same hD A1⟩
/-! ### ends_alike -/
abbrev sAlike : Stmt := top 29
abbrev nAlike : List Str := ["one", "other", "thing", "j", "k", "more", "less"]
theorem scAlike : FnScope nAlike ["one", "other", "thing"] (defScope sAlike) := ⟨rfl, rfl, rfl, by decide +kernel, rfl, by decide +kernel, by decide +kernel⟩
def spAlike (C : Addr) : Sp := fun vs H Q _ => ∃ (p a B : Nat) (m : M) (t : Th), vs = [.ref p, .ref p, .ref a] ∧ MAt C H p m ∧ MOk B m ∧ B ≤ 500000 ∧ ThAt H a t ∧ t.1 < m.rooms.length ∧ t.2.1 < m.rooms.length ∧ t.2.2.1.length ≤ 1000000 ∧ t.2.2.2.length ≤ 1000000 ∧ Q (.bl (decide (alikeT m.rooms t))) H
theorem ok_alike (F : FnP K "ends_alike" "ends_alike" sAlike f fd) (T : Txt K mg C) : FnOk P w K mg base CX0 1 f fd ["one", "other", "thing"] (spAlike C) := by
  refine okD F scAlike (fun vs H Q E h => ?_) (fun cdv A outer s H vs Q E hr h => ?_)
  · obtain ⟨p, a, B, m, t, rfl, _⟩ := h
    rfl
  · obtain ⟨p, a, B, m, ⟨j, k, more, less⟩, rfl, ⟨dx, l, e, A0⟩, O, hB, et, hj, hk, hm1, hm2, q⟩ := h
    dsimp only at hj hk hm1 hm2
    replace et : H a = some (.tup [nn j, nn k, tx more, tx less]) := et
    refine ⟨_, pss_cons (ps_asg (pv 2) (pg_tup rfl (pgs_cons (pg_name (i := 3) scAlike.nd rfl (.inl rfl)) (pgs_cons (pg_name (i := 4) scAlike.nd rfl (.inl rfl)) (pgs_cons (pg_name (i := 5) scAlike.nd rfl (.inl rfl)) (pgs_cons (pg_name (i := 6) scAlike.nd rfl (.inl rfl)) pgs_nil))))))
      (pss_one (ps_ret (pe_cmpR op_eq (pe_op op_add_str (pv 5) (pe_ix ix_tup (pe_ix ix_list (pe_fld (pv 0) rfl) (pv 3) (fun _ _ => rfl)) pe_int (fun _ _ => rfl))) (pe_op op_add_str (pv 6) (pe_ix ix_tup (pe_ix ix_list (pe_fld (pv 1) rfl) (pv 4) (fun _ _ => rfl)) pe_int (fun _ _ => rfl))) (nomark _)))), ?_⟩
    refine ⟨_, rfl, a, _, rfl, SqT.of et, rfl, _, _, rfl, _, _, rfl, _, _, rfl, _, _, rfl, rfl, ?_⟩
    obtain ⟨vs1, t1, p1, ws1, f1, _, f2, f3, f4, l1, k1⟩ := A0.room hj
    obtain ⟨vs2, t2, p2, ws2, g1, _, g2, g3, g4, l2, k2⟩ := A0.room hk
    have b1 := (O.r.room_at hj).2.1
    have b2 := (O.r.room_at hk).2.1
    refine ⟨_, rfl, _, rfl, p, C, dx, _, _, rfl, e, T.cl, T.nM, f_made m l, _, rfl, l, vs1, _, _, rfl, rfl, SqL.of f1, atI_nat f2, t1, _, 0, _, rfl, rfl, SqT.of f3, rfl, _, _, rfl, rfl, by rw [ss_len, ss_len]; exact line_ok (by omega), ?_⟩
    refine ⟨_, rfl, _, rfl, p, C, dx, _, _, rfl, e, T.cl, T.nM, f_made m l, _, rfl, l, vs2, _, _, rfl, rfl, SqL.of g1, atI_nat g2, t2, _, 0, _, rfl, rfl, SqT.of g3, rfl, _, _, rfl, rfl, by rw [ss_len, ss_len]; exact line_ok (by omega), rfl, ?_⟩
    rw [ss_app, ss_app, tx_dec]
    exact q
end
end K70
namespace K70
open PySem PySem.Spec PyProof.Rows L2
theorem keyT_inj {t u : Th} (h : keyT t = keyT u) : t = u := by
  obtain ⟨a, b, c, d⟩ := t
  obtain ⟨a', b', c', d'⟩ := u
  unfold keyT at h
  injection h with h1 h
  injection h with h2 h
  injection h with h3 h
  injection h with h4 h
  have e1 := Sum.inl.inj h1
  have e2 := Sum.inl.inj h2
  have e3 := ss_inj (Sum.inr.inj h3)
  have e4 := ss_inj (Sum.inr.inj h4)
  dsimp only at e1 e2 e3 e4
  rw [show a = a' by omega, show b = b' by omega, e3, e4]
def wordsD (ord : List (Th × Tx)) : List (List Key × V) := ord.map fun p => (keyT p.1, tx p.2)
theorem wordsD_out {t : Th} : ∀ {ord : List (Th × Tx)}, t ∉ ord.map (·.1) → valV (wordsD ord) (keyT t) = none
  | [], _ => rfl
  | p :: ord, h => by
    show valV ((keyT p.1, tx p.2) :: wordsD ord) (keyT t) = none
    rw [valV_neg (by intro z; exact h (by rw [← keyT_inj z]; exact List.mem_cons_self))]
    exact wordsD_out fun z => h (List.mem_cons_of_mem _ z)
theorem wordsD_in {t : Th} {y : Tx} : ∀ {ord : List (Th × Tx)}, (ord.map (·.1)).Nodup → (t, y) ∈ ord → valV (wordsD ord) (keyT t) = some (tx y)
  | [], _, h => by cases h
  | p :: ord, nd, h => by
    show valV ((keyT p.1, tx p.2) :: wordsD ord) (keyT t) = _
    rw [List.map_cons, List.nodup_cons] at nd
    by_cases e : p.1 = t
    · rw [valV_pos (by rw [e])]
      rcases List.mem_cons.mp h with q | q
      · rw [← q]
      · exact absurd (List.mem_map.mpr ⟨_, q, e.symm⟩) nd.1
    · rw [valV_neg (by intro z; exact e (keyT_inj z))]
      rcases List.mem_cons.mp h with q | q
      · exact absurd (by rw [← q]) e
      · exact wordsD_in nd.2 q
theorem wordsD_some {t : Th} {ord : List (Th × Tx)} (h : t ∈ ord.map (·.1)) : ∃ v, valV (wordsD ord) (keyT t) = some v := by
  induction ord with
  | nil => cases h
  | cons p ord ih =>
    show ∃ v, valV ((keyT p.1, tx p.2) :: wordsD ord) (keyT t) = some v
    by_cases e : p.1 = t
    · exact ⟨_, valV_pos (by rw [e])⟩
    · rw [valV_neg (by intro z; exact e (keyT_inj z))]
      rcases List.mem_cons.mp h with q | q
      · exact absurd q.symm e
      · exact ih q
theorem wordsD_put {ord : List (Th × Tx)} {t : Th} {y : Tx} (h : t ∉ ord.map (·.1)) : putK (wordsD ord) (keyT t) (tx y) = wordsD (ord ++ [(t, y)]) := by
  rw [putK_new _ (wordsD_out h)]
  unfold wordsD
  rw [List.map_append]
  rfl
def OrdAt (H : Hp) (a : Addr) (ord : List (Th × Tx)) : Prop := ∃ vs, H a = some (.lst vs) ∧ vs.length = ord.length ∧ ∀ (i : Nat) (v : V) (p : Th × Tx), vs[i]? = some v → ord[i]? = some p → ThR H v p.1
theorem OrdAt.mono {H H' : Hp} {a : Addr} {ord : List (Th × Tx)} (s : Same H H') (h : OrdAt H a ord) : OrdAt H' a ord := by
  obtain ⟨vs, e, l, k⟩ := h
  exact ⟨vs, s _ _ e, l, fun i v p h1 h2 => mono_th _ _ _ _ s (k i v p h1 h2)⟩
theorem ThR.put {H : Hp} {a : Addr} {v : V} {t : Th} {o o' : HO} (h : ThR H v t) (ha : H a = some o) (ho : ∀ xs, o ≠ .tup xs) : ThR (upd H a o') v t := by
  obtain ⟨u, e, q⟩ := h
  exact ⟨u, e, by unfold ThAt at *; rw [upd_ne (ne_of q ha (by intro z; exact ho _ z.symm))]; exact q⟩
theorem OrdAt.dict {H : Hp} {a d : Addr} {ord : List (Th × Tx)} {k k' : List (List Key × V)} (h : OrdAt H a ord) (hd : H d = some (.dT k)) : OrdAt (upd H d (.dT k')) a ord := by
  obtain ⟨vs, e, l, q⟩ := h
  exact ⟨vs, by rw [upd_ne (ne_of e hd (by intro z; cases z))]; exact e, l, fun i v p h1 h2 => (q i v p h1 h2).put hd (by intro xs z; cases z)⟩
theorem OrdAt.snoc {H : Hp} {a : Addr} {ord : List (Th × Tx)} {v : V} {t : Th} {y : Tx} (h : OrdAt H a ord) (hv : ThR H v t) : ∃ vs, H a = some (.lst vs) ∧ vs.length = ord.length ∧ OrdAt (upd H a (.lst (vs ++ [v]))) a (ord ++ [(t, y)]) := by
  obtain ⟨vs, e, l, q⟩ := h
  refine ⟨vs, e, l, _, upd_same, by simp [l], fun i u p h1 h2 => ?_⟩
  refine ThR.put (o := .lst vs) ?_ e (by intro xs z; cases z)
  by_cases hi : i < vs.length
  · rw [List.getElem?_append_left hi] at h1
    rw [List.getElem?_append_left (by omega)] at h2
    exact q i u p h1 h2
  · have hle := (List.getElem?_eq_some_iff.mp h1).1
    rw [List.length_append] at hle
    have hie : i = vs.length := by simp at hle; omega
    subst hie
    rw [List.getElem?_append_right (Nat.le_refl _)] at h1
    rw [List.getElem?_append_right (by omega), l] at h2
    simp at h1 h2
    rw [← h1, ← h2]
    exact hv
def optV : Option Tx → V
  | none => .non
  | some y => tx y
section
variable {P : Program} {w : World} {K : PySem.W.Frag} {mg : Str → Option Value} {base : Heap} {C f : Addr} {fd : FuncData}
abbrev sPart : Stmt := top 30
abbrev nPart : List Str := ["one", "other", "begin", "words", "order", "at", "thing", "sign", "there"]
theorem scPart : FnScope nPart ["one", "other", "begin"] (defScope sPart) := ⟨rfl, rfl, rfl, by decide +kernel, rfl, by decide +kernel, by decide +kernel⟩
def spPart (C : Addr) : Sp := fun vs H Q _ => ∃ (p a B c : Nat) (m : M) (b : Th), vs = [.ref p, .ref p, .ref a] ∧ MAt C H p m ∧ MOk B m ∧ B + B ≤ c ∧ c ≤ 1000000 ∧ ThAt H a b ∧ ThOk m.rooms b ∧ b.2.2.1.length ≤ c ∧ b.2.2.2.length ≤ c ∧
  ∀ t O r H', Same H H' → H' t = some (.tup [optV r, O]) → FirstOf m.letters (BadT m.letters m.rooms b) r → (∀ y, r = some y → y.length ≤ m.rooms.length * m.rooms.length) → Q (.ref t) H'
theorem ok_part (F : FnP K "first_parting" "first_parting" sPart f fd) (T : Txt K mg C) (cA : Cal P w K mg base 1 "ends_alike" (spAlike C) []) (cL : Cal P w K mg base 3 "led_on" (spLed C) []) (cLt : Met P w K mg base 1 C "letters" (spLets C)) : FnOk P w K mg base CX0 4 f fd ["one", "other", "begin"] (spPart C) := by
  refine okD F scPart (fun vs H Q E h => ?_) (fun cdv A outer s H vs Q E hr h => ?_)
  · obtain ⟨p, a, B, c, m, b, rfl, _⟩ := h
    rfl
  · obtain ⟨p, a, B, c, m, b, rfl, Mt, O, hBc, hc, eb, bok, hb1, hb2, q⟩ := h
    refine ⟨_, pss_cons (ps_set (i := 3) scPart.nd rfl (.inl rfl) (pe_dispT (Nat.lt_of_succ_lt (hu_of hr)) (pv 2) pe_str))
      (pss_cons (ps_set (i := 4) scPart.nd rfl (.inl rfl) (pe_lst (pa_cons (pv 2) pa_nil)))
      (pss_cons (ps_set (i := 5) scPart.nd rfl (.inl rfl) pe_int)
      (pss_cons (ps_while PassesOwn.never (pt_cmpR op_lt (pv 5) (pe_callB call_len_seq (by rfl) T.len PySem.boot_len (pa_cons (pv 4) pa_nil)) (nomark _))
        (pss_cons (ps_set (i := 6) scPart.nd rfl (.inl rfl) (pe_ix ix_list (pv 4) (pv 5) (fun _ _ => rfl)))
        (pss_cons (ps_if (pt_not (pt_val (ca cA hr (by decide) (by rfl) (pa_cons (pv 0) (pa_cons (pv 1) (pa_cons (pv 6) pa_nil)))))) (pss_one (ps_ret (pe_tup (pa_cons (pe_dget (hu_of hr) (pv 3) (pv 6) (fun _ _ => rfl)) (pa_cons (pv 4) pa_nil))))) pss_nil)
        (pss_cons (ps_for PassesOwn.never rfl (pi_zipS (by rfl) T.zip (pa_cons (mt0 cLt hr (by decide) (pv 0)) (pa_cons (ca cL hr (by decide) (by rfl) (pa_cons (pv 0) (pa_cons (pv 1) (pa_cons (pv 6) pa_nil)))) pa_nil)))
            (pg_tup rfl (pgs_cons (pg_name (i := 7) scPart.nd rfl (.inl rfl)) (pgs_cons (pg_name (i := 8) scPart.nd rfl (.inl rfl)) pgs_nil)))
          (pss_one (ps_if (pt_cmp (pc_dnotin (hu_of hr) (pv 8) (pv 3))) (pss_cons (ps_dput (hu_of hr) (pv 3) (pv 8) (pe_op op_add_str (pe_dget (hu_of hr) (pv 3) (pv 6) (fun _ _ => rfl)) (pv 7)) rfl)
            (pss_one (ps_expr (pe_bm PySem.F.plainAttrs_list PySem.F.slot_list_append PySem.F.type_list_append mt_append (pv 4) (pa_cons (pv 8) pa_nil))))) pss_nil)))
        (pss_one (ps_aug (i := 5) scPart.nd rfl (.inl rfl) pe_int ip_add))))))
      (pss_one (ps_ret (pe_tup (pa_cons pe_non (pa_cons (pv 4) pa_nil)))))))), ?_⟩
    intro D hD
    have s0 : Same H (upd H D (.dT [])) := same_upd hD
    have eb0 := s0 _ _ eb
    refine ⟨_, rfl, upd_same, a, keyT b, rfl, eb0, ?_⟩
    have s1 : Same H (upd (upd H D (.dT [])) D (.dT [(keyT b, V.str "")])) := s0.put hD
    refine ⟨_, rfl, line_ok (by show 1 ≤ 16000000; decide), fun G hG => ?_⟩
    have nGD : G ≠ D := fun z => by rw [z, upd_same] at hG; cases hG
    have hHG : H G = none := s1.free hG
    have s2 : Same H (upd (upd (upd H D (.dT [])) D (.dT [(keyT b, V.str "")])) G (.lst [.ref a])) := s1.up hG
    have eD2 : (upd (upd (upd H D (.dT [])) D (.dT [(keyT b, V.str "")])) G (.lst [.ref a])) D = some (.dT (wordsD [(b, [])])) := by
      rw [upd_ne (Ne.symm nGD), upd_same]
      rfl
    have eG2 : OrdAt (upd (upd (upd H D (.dT [])) D (.dT [(keyT b, V.str "")])) G (.lst [.ref a])) G [(b, [])] := by
      refine ⟨_, upd_same, rfl, fun i v p h1 h2 => ?_⟩
      cases i with
      | zero =>
        cases h1
        cases h2
        exact ⟨a, rfl, s2 _ _ eb⟩
      | succ i => simp at h1
    revert s2 eD2 eG2
    generalize (upd (upd (upd H D (.dT [])) D (.dT [(keyT b, V.str "")])) G (.lst [.ref a])) = H2
    intro s2 eD2 eG2
    obtain ⟨dx, l, eM, A0⟩ := id Mt
    have hn2 : m.rooms.length * m.rooms.length ≤ 40000 := Nat.mul_le_mul O.r.le O.r.le
    have hn3 : ∀ i, i ≤ m.rooms.length * m.rooms.length → i * m.letters.length ≤ 640000 := fun i hi => Nat.le_trans (Nat.mul_le_mul hi O.l.le) (Nat.mul_le_mul hn2 (Nat.le_refl 16))
    refine ⟨fun k σ H' => ∃ (ord : List (Th × Tx)) (i : Nat) (z1 z2 z3 : Option V), Same H H' ∧ H' D = some (.dT (wordsD ord)) ∧ OrdAt H' G ord ∧ BInv m.letters m.rooms c b ord i ∧ k = m.rooms.length * m.rooms.length + 1 - i ∧
      σ = [some (.ref p), some (.ref p), some (.ref a), some (.ref D), some (.ref G), some (nn i), z1, z2, z3], ⟨_, [(b, [])], 0, none, none, none, s2, eD2, eG2, BInv.start hb1 hb2, rfl, rfl⟩, ?_⟩
    rintro k σ H3 ⟨ord, i, z1, z2, z3, s3, eD3, oG3, I, rfl, rfl⟩
    have hfew := I.few O.r bok
    obtain ⟨vs3, eG3, lG3, kG3⟩ := id oG3
    have hln := I.ln
    have hln2 := hn3 i hfew
    refine ⟨_, rfl, _, rfl, G, vs3, rfl, .inl (SqL.of eG3), _, _, rfl, rfl, _, rfl, ?_⟩
    by_cases hi : i < ord.length
    · rw [decide_eq_true (by omega : (i : Int) < (vs3.length : Int))]
      refine iteT ⟨Less _ _, less_ok, ?_⟩
      have eo := List.getElem?_eq_getElem hi
      generalize ord[i] = tp at eo
      obtain ⟨t, y⟩ := tp
      have hmem := List.mem_of_getElem? eo
      have tok := I.ok O.r bok hmem
      obtain ⟨sz1, sz2⟩ := I.sz _ hmem
      have wly := I.wl _ _ eo
      dsimp only at tok sz1 sz2 wly
      have hiv : i < vs3.length := by omega
      have ev := List.getElem?_eq_getElem hiv
      obtain ⟨u, eu, et⟩ := kG3 i _ _ ev eo
      rw [eu] at ev
      dsimp only at et
      have nd3 := I.nd
      refine ⟨_, rfl, _, rfl, G, vs3, _, _, rfl, rfl, SqL.of eG3, atI_nat ev, ?_⟩
      refine ⟨_, rfl, _, rfl, _, rfl, p, u, B, m, t, rfl, Mt.mono s3, O, by omega, et, tok.j, tok.k, by omega, by omega, _, rfl, ?_⟩
      by_cases al : alikeT m.rooms t
      · rw [decide_eq_true al]
        refine iteF ?_
        have J := I.open_ eo al
        refine ⟨_, rfl, p, dx, _, rfl, s3 _ _ eM, f_none m l, p, m, rfl, Mt.mono s3, _, rfl, _, rfl, _, rfl, p, u, B, m, t, rfl, Mt.mono s3, O, by omega, et, tok.j, tok.k, by omega, by omega, fun F4 H4 s4 hF4 L4 => ?_⟩
        obtain ⟨ws, e4, l4, k4⟩ := L4
        rw [List.length_map] at l4
        have nD4 : F4 ≠ D := fun z => by
          have := s4 _ _ eD3
          rw [← z, e4] at this
          cases this
        have hD4 : H D = none := hD
        have ezl : (m.letters.map sgn).length = ws.length := by rw [List.length_map, l4]
        refine ⟨_, _, m.letters.map sgn, ws, rfl, by show m.letters.map sgn = _; rw [ss_cps], SqL.of e4, for_it (walk_zipS (x := tx m.letters) (y := .ref F4) ezl) (fun j σ H5 => ∃ (ord : List (Th × Tx)) (z2 z3 : Option V), Same H H5 ∧ H5 F4 = some (.lst ws) ∧ (∀ (i : Nat) (v : V) (t' : Th), ws[i]? = some v → (m.letters.map (stepT m.letters m.rooms t))[i]? = some t' → ThR H5 v t') ∧ H5 u = some (.tup ((keyT t).map kV)) ∧ H5 D = some (.dT (wordsD ord)) ∧ OrdAt H5 G ord ∧ BMid m.letters m.rooms c b ord i (t, y) j ∧
          F4 ≠ G ∧ σ = [some (.ref p), some (.ref p), some (.ref a), some (.ref D), some (.ref G), some (nn i), some (.ref u), z2, z3]) ⟨ord, z2, z3, s3.trans s4, e4, k4, s4 _ _ et, s4 _ _ eD3, oG3.mono s4, J, ?_, rfl⟩ (fun j σ H5 _ h => by obtain ⟨_, _, _, _, e5, _⟩ := h; exact ⟨by show m.letters.map sgn = _; rw [ss_cps], SqL.of e5⟩) ?_ ?_⟩
        · exact fun z => by rw [z, eG3] at hF4; cases hF4
        · rintro j x σ H5 H6 hj ⟨ord, z2, z3, s5, e5, k5, et5, eD5, oG5, Jm, nFG, rfl⟩ ⟨w1, x1, x2, rfl, hn, rfl, ex1, ex2⟩
          replace ex2 : ws[j]? = some x2 := ex2
          have hj' : j < m.letters.length := by rw [List.length_map] at hj; exact hj
          have hx1 : x1 = sgn m.letters[j] := by
            replace ex1 : (m.letters.map sgn)[j]? = some x1 := ex1
            rw [List.getElem?_map, List.getElem?_eq_getElem hj'] at ex1
            exact (Option.some.inj ex1).symm
          subst hx1
          have est : (m.letters.map (stepT m.letters m.rooms t))[j]? = some (stepT m.letters m.rooms t m.letters[j]) := by rw [List.getElem?_map, List.getElem?_eq_getElem hj']; rfl
          obtain ⟨v2, rfl, ev2⟩ := k5 j x2 _ ex2 est
          have su : Same H5 (upd H5 w1 (.tup [sgn m.letters[j], .ref v2])) := same_upd hn
          refine ⟨w1, _, rfl, SqT.of upd_same, rfl, _, _, rfl, _, _, rfl, rfl, ?_⟩
          have s6 := s5.trans su
          have e6 := su _ _ e5
          have k6 : ∀ (i : Nat) (v : V) (t' : Th), ws[i]? = some v → (m.letters.map (stepT m.letters m.rooms t))[i]? = some t' → ThR (upd H5 w1 (.tup [sgn m.letters[j], .ref v2])) v t' := fun i v t' h1 h2 => mono_th _ _ _ _ su (k5 i v t' h1 h2)
          have et6 := su _ _ et5
          have eD6 := su _ _ eD5
          have oG6 := oG5.mono su
          have ev6 := su _ _ ev2
          generalize (upd H5 w1 (.tup [sgn m.letters[j], .ref v2])) = H6 at *
          have J2 := Jm.turn O.r O.l bok hBc hj'
          have hmem' := List.mem_of_getElem? Jm.here
          have hlnm := Jm.ln
          have hle := O.l.le
          obtain ⟨vsg, egG, _⟩ := id oG6
          refine ⟨_, rfl, _, rfl, D, _, rfl, DGet.t (k := keyT (stepT m.letters m.rooms t m.letters[j])) eD6 ev6, ?_⟩
          by_cases hin : stepT m.letters m.rooms t m.letters[j] ∈ ord.map (·.1)
          · obtain ⟨vv, ev⟩ := wordsD_some hin
            rw [ev]
            refine ⟨false, rfl, iteF ?_⟩
            have ea : addT m.letters m.rooms ord (t, y) m.letters[j] = ord := if_pos hin
            rw [ea] at J2
            exact ⟨ord, _, _, s6, e6, k6, et6, eD6, oG6, J2, nFG, rfl⟩
          · rw [wordsD_out hin]
            refine ⟨true, rfl, iteT ?_⟩
            have ea : addT m.letters m.rooms ord (t, y) m.letters[j] = ord ++ [(stepT m.letters m.rooms t m.letters[j], y ++ [m.letters[j]])] := if_neg hin
            rw [ea] at J2
            have hg := DGet.t (k := keyT t) eD6 et6
            rw [wordsD_in Jm.nd hmem'] at hg
            refine ⟨_, rfl, _, rfl, D, _, rfl, hg, _, rfl, _, _, rfl, rfl, by rw [ss_len]; exact line_ok (by show y.length + 1 ≤ 16000000; omega), _, rfl, _, rfl, D, _, rfl, DPut.t (k := keyT (stepT m.letters m.rooms t m.letters[j])) eD6 ev6 (line_lt (by unfold wordsD; rw [List.length_map]; omega)), ?_⟩
            have eput : putK (wordsD ord) (keyT (stepT m.letters m.rooms t m.letters[j])) (V.str (SS y ++ ⟨#[m.letters[j]]⟩)) = wordsD (ord ++ [(stepT m.letters m.rooms t m.letters[j], y ++ [m.letters[j]])]) := by
              rw [← wordsD_put hin]
              exact congrArg (putK (wordsD ord) _) (congrArg V.str (ss_app y [m.letters[j]]))
            rw [eput]
            have oG7 : OrdAt (upd H6 D (.dT (wordsD (ord ++ [(stepT m.letters m.rooms t m.letters[j], y ++ [m.letters[j]])])))) G ord := oG6.dict eD6
            have ev7 : ThR (upd H6 D (.dT (wordsD (ord ++ [(stepT m.letters m.rooms t m.letters[j], y ++ [m.letters[j]])])))) (.ref v2) (stepT m.letters m.rooms t m.letters[j]) := ThR.put ⟨v2, rfl, ev6⟩ eD6 (by intro xs z; cases z)
            obtain ⟨vs8, e8, l8, oG8⟩ := oG7.snoc (y := y ++ [m.letters[j]]) ev7
            refine ⟨_, rfl, .inl ⟨rfl, _, SqL.of e8⟩, _, rfl, G, vs8, _, rfl, rfl, e8, line_lt (by rw [l8]; omega), ?_⟩
            refine ⟨_, _, _, (s6.put hD).put hHG, ?_, ?_, ?_, ?_, oG8, J2, nFG, rfl⟩
            · rw [upd_ne nFG, upd_ne nD4]; exact e6
            · intro i v t' h1 h2
              exact ((k6 i v t' h1 h2).put eD6 (by intro xs z; cases z)).put e8 (by intro xs z; cases z)
            · rw [upd_ne (ne_of et6 egG (by intro z; cases z)), upd_ne (ne_of et6 eD6 (by intro z; cases z))]; exact et6
            · rw [upd_ne (Ne.symm nGD), upd_same]
        · rintro σ H5 ⟨ord, z2, z3, s5, e5, k5, et5, eD5, oG5, Jm, nFG, rfl⟩
          rw [List.length_map] at Jm
          have I2 := Jm.close
          have hf2 := I2.few O.r bok
          refine ⟨_, rfl, _, _, rfl, rfl, ?_⟩
          exact ⟨m.rooms.length * m.rooms.length + 1 - (i + 1), by omega, ord, i + 1, _, _, _, s5, eD5, oG5, I2, rfl, rfl⟩
      · rw [decide_eq_false al]
        refine iteT ?_
        have hg := DGet.t (k := keyT t) eD3 et
        rw [wordsD_in nd3 hmem] at hg
        refine ⟨_, rfl, _, rfl, D, _, rfl, hg, _, rfl, two_ok, fun t9 ht9 => ?_⟩
        exact q t9 _ (some y) _ (s3.up ht9) upd_same (I.parts eo al) (fun y' e => by cases e; omega)
    · rw [decide_eq_false (by omega)]
      refine iteF ⟨_, rfl, two_ok, fun t9 ht9 => ?_⟩
      exact q t9 _ none _ (s3.up ht9) upd_same (I.never (by omega)) (fun y' e => nomatch e)
end
end K70
namespace K70
open PySem PySem.Spec PyProof.Rows L2
def placed (L : M) (x : Tx) (i : Nat) : List Nat := (List.range (i + 1)).filter fun j => decide (L.room (x.take j) = 0)
theorem placed_zero (L : M) (x : Tx) : placed L x 0 = [0] := by
  unfold placed
  rfl
theorem placed_succ (L : M) (x : Tx) (i : Nat) : placed L x (i + 1) = placed L x i ++ (if L.room (x.take (i + 1)) = 0 then [i + 1] else []) := by
  unfold placed
  rw [List.range_succ, List.filter_append]
  congr 1
  by_cases h : L.room (x.take (i + 1)) = 0
  · rw [if_pos h]; simp [h]
  · rw [if_neg h]; simp [h]
theorem placed_len (L : M) (x : Tx) (i : Nat) : (placed L x i).length ≤ i + 1 := by
  unfold placed
  have := List.length_filter_le (fun j => decide (L.room (x.take j) = 0)) (List.range (i + 1))
  rwa [List.length_range] at this
theorem seams_least {m L : M} (h : Least m L) {x : Tx} (w : Wd m.letters x) : seamsL m x = if L.row [] = [] then placed L x x.length else [] := by
  have e0 : L.row [] = m.row [] := h.row [] Wd.nil
  by_cases e : L.row [] = []
  · rw [if_pos e]
    unfold seamsL placed
    refine List.filter_congr fun i _ => ?_
    have h1 := h.zero (e0 ▸ e) (x.take i) (w.take i)
    by_cases q : L.room (x.take i) = 0
    · rw [decide_eq_true q]; exact seamB_iff.mpr (h1.mp q)
    · rw [decide_eq_false q]
      cases hb : seamB m (x.take i) with
      | false => rfl
      | true => exact absurd (h1.mpr (seamB_iff.mp hb)) q
  · rw [if_neg e]
    refine List.filter_eq_nil_iff.mpr fun i _ hb => ?_
    exact e (e0.trans (seam_nil (seamB_iff.mp hb)))
section
variable {P : Program} {w : World} {K : PySem.W.Frag} {mg : Str → Option Value} {base : Heap} {C f : Addr} {fd : FuncData}
/-! ### seam_places -/
abbrev sPlaces : Stmt := top 32
abbrev nPlaces : List Str := ["least", "word", "found", "room", "at", "sign", "text"]
theorem scPlaces : FnScope nPlaces ["least", "word"] (defScope sPlaces) := ⟨rfl, rfl, rfl, by decide +kernel, rfl, by decide +kernel, by decide +kernel⟩
def spPlaces (C : Addr) : Sp := fun vs H Q _ => ∃ (p B : Nat) (L : M) (x : Tx), vs = [.ref p, tx x] ∧ MAt C H p L ∧ MOk B L ∧ B ≤ 500000 ∧ Wd L.letters x ∧ x.length ≤ 1000000 ∧
  ∀ D H', Same H H' → H D = none → H' D = some (.lst ((if L.row [] = [] then placed L x x.length else []).map nn)) → Q (.ref D) H'
theorem ok_places (F : FnP K "seam_places" "seam_places" sPlaces f fd) (T : Txt K mg C) (cR : Met P w K mg base 5 C "row" (spRow C)) (cW : Cal P w K mg base 1 "walked" (spWalk C) []) : FnOk P w K mg base CX0 6 f fd ["least", "word"] (spPlaces C) := by
  refine okD F scPlaces (fun vs H Q E h => ?_) (fun cdv A outer s H vs Q E hr h => ?_)
  · obtain ⟨p, B, m, x, rfl, _⟩ := h
    rfl
  · obtain ⟨p, B, L, x, rfl, Mt, O, hB, W, hx, q⟩ := h
    refine ⟨_, pss_cons (ps_if (pt_cmpR op_ne (mt cR hr (by decide) (pv 0) (pa_cons pe_str pa_nil)) pe_str (nomark _)) (pss_one (ps_ret (pe_lst pa_nil))) pss_nil)
      (pss_cons (ps_set (i := 2) scPlaces.nd rfl (.inl rfl) (pe_lst (pa_cons pe_int pa_nil)))
      (pss_cons (ps_set (i := 3) scPlaces.nd rfl (.inl rfl) pe_int)
      (pss_cons (ps_for PassesOwn.never rfl (pi_enumK (by rfl) T.enu (pa_cons (pv 1) pa_nil) (by decide) (by decide)) (pg_tup rfl (pgs_cons (pg_name (i := 4) scPlaces.nd rfl (.inl rfl)) (pgs_cons (pg_name (i := 5) scPlaces.nd rfl (.inl rfl)) pgs_nil)))
        (pss_cons (ps_asg (ca cW hr (by decide) (by rfl) (pa_cons (pv 0) (pa_cons (pv 3) (pa_cons (pv 5) pa_nil)))) (pg_tup rfl (pgs_cons (pg_name (i := 6) scPlaces.nd rfl (.inl rfl)) (pgs_cons (pg_name (i := 3) scPlaces.nd rfl (.inl rfl)) pgs_nil))))
        (pss_one (ps_if (pt_cmpR op_eq (pv 3) pe_int (nomark _)) (pss_one (ps_expr (pe_bm PySem.F.plainAttrs_list PySem.F.slot_list_append PySem.F.type_list_append mt_append (pv 2) (pa_cons (pv 4) pa_nil)))) pss_nil))))
      (pss_one (ps_ret (pv 2)))))), ?_⟩
    obtain ⟨dx, l, eM, A0⟩ := id Mt
    refine ⟨_, rfl, p, dx, _, rfl, eM, f_none L l, p, B, [], L, rfl, Mt, O, by omega, Wd.nil, by simp, fun H1 s1 => ⟨rfl, _, rfl, ?_⟩⟩
    by_cases e : L.row [] = []
    · rw [if_pos e] at q
      rw [decide_eq_true (by rw [e]; rfl)]
      refine iteF ⟨line_ok (by decide), fun D hD => ?_⟩
      have hHD : H D = none := s1.free hD
      refine ⟨_, rfl, tx x, x.map sgn, rfl, by show x.map sgn = _; rw [ss_cps], for_it (walk_enumS (x := tx x) (xs := x.map sgn)) (fun i σ H2 => Same H H2 ∧ H2 D = some (.lst ((placed L x i).map nn)) ∧ ∃ z1 z2 z3, σ = [some (.ref p), some (tx x), some (.ref D), some (nn (L.room (x.take i))), z1, z2, z3]) ⟨s1.up hD, upd_same, none, none, none, rfl⟩ (fun i σ H2 _ _ => by show x.map sgn = _; rw [ss_cps]) ?_ ?_⟩
      · rintro i v σ H2 H3 hi ⟨s2, eD, z1, z2, z3, rfl⟩ ⟨t, u1, u2, rfl, hn, rfl, ex1, ex2⟩
        have hi' : i < x.length := by rw [List.length_map] at hi; exact hi
        have ec := List.getElem?_eq_getElem hi'
        have hu : u2 = sgn x[i] := by
          replace ex2 : (x.map sgn)[i]? = some u2 := ex2
          rw [List.getElem?_map, ec] at ex2
          exact (Option.some.inj ex2).symm
        subst hu
        cases ex1
        have hc : x[i] ∈ L.letters := W _ (List.getElem_mem hi')
        generalize x[i] = c at *
        have hk := O.r.walk_lt (x.take i) 0 O.r.pos (W.take i)
        have s3 := s2.trans (same_upd (o := .tup [.int (1 + (i : Nat)), sgn c]) hn)
        refine ⟨t, _, rfl, SqT.of upd_same, rfl, _, _, rfl, _, _, rfl, rfl, ?_⟩
        refine ⟨_, rfl, _, rfl, _, rfl, p, L.room (x.take i), B, [c], L, rfl, Mt.mono s3, O, hk, Wd.cons hc Wd.nil, by simp; omega, fun t4 H4 s4 e4 => ?_⟩
        have er : (walkF L.letters L.rooms (L.room (x.take i)) [c]).2 = L.room (x.take (i + 1)) := by
          unfold M.room
          rw [take_snoc ec, walk_snoc]
          rfl
        have eD4 := s4 _ _ ((same_upd (o := .tup [.int (1 + (i : Nat)), sgn c]) hn) _ _ eD)
        have s5 := s3.trans s4
        refine ⟨t4, _, rfl, SqT.of e4, rfl, _, _, rfl, _, _, rfl, rfl, ?_⟩
        refine ⟨_, rfl, rfl, _, rfl, ?_⟩
        rw [er]
        by_cases z : L.room (x.take (i + 1)) = 0
        · rw [decide_eq_true (by rw [z]; rfl)]
          refine iteT ⟨_, rfl, .inl ⟨rfl, _, SqL.of eD4⟩, _, rfl, D, _, _, rfl, rfl, eD4, line_lt (by rw [List.length_map]; have := placed_len L x i; omega), ?_⟩
          refine ⟨s5.put hHD, ?_, _, _, _, rfl⟩
          rw [upd_same, placed_succ, if_pos z, List.map_append]
          refine congrArg (fun u => some (HO.lst (List.map nn (placed L x i) ++ [u]))) (congrArg V.int ?_)
          omega
        · rw [decide_eq_false (by intro y; exact z (by have := V.int.inj y; omega))]
          refine iteF ⟨s5, ?_, _, _, _, rfl⟩
          rw [eD4, placed_succ, if_neg z, List.append_nil]
      · rintro σ H2 ⟨s2, eD, z1, z2, z3, rfl⟩
        rw [List.length_map] at eD
        exact ⟨_, rfl, q D H2 s2 hHD eD⟩
    · rw [if_neg e] at q
      rw [decide_eq_false (by intro z; exact e (tx_inj z))]
      exact iteT ⟨Nat.zero_le _, fun D hD => q D _ (s1.up hD) (s1.free hD) upd_same⟩
/-! ### seams -/
abbrev sSeams : Stmt := top 33
theorem scSeams : FnScope ["machine", "word"] ["machine", "word"] (defScope sSeams) := ⟨rfl, rfl, rfl, by decide +kernel, rfl, by decide +kernel, by decide +kernel⟩
def spSeams (C : Addr) : Sp := fun vs H Q _ => ∃ (p B : Nat) (m : M) (x : Tx), vs = [.ref p, tx x] ∧ MAt C H p m ∧ MOk B m ∧ B ≤ 100000 ∧ Wd m.letters x ∧ x.length ≤ 1000000 ∧ ∀ D H', Same H H' → H D = none → H' D = some (.lst ((seamsL m x).map nn)) → Q (.ref D) H'
theorem ok_seams (F : FnP K "seams" "seams" sSeams f fd) (T : Txt K mg C) (cW : CalK P w K mg base 3 "want_word" 1 ["letters"] spWantW gApp) (cLt : Met P w K mg base 1 C "letters" (spLets C)) (cL : Cal P w K mg base 7 "least_of" (spLeastOf C) []) (cP : Cal P w K mg base 6 "seam_places" (spPlaces C) []) : FnOk P w K mg base CX0 8 f fd ["machine", "word"] (spSeams C) := by
  refine okD F scSeams (fun vs H Q E h => ?_) (fun cdv A outer s H vs Q E hr h => ?_)
  · obtain ⟨p, B, m, x, rfl, _⟩ := h
    rfl
  · obtain ⟨p, B, m, x, rfl, Mt, O, hB, W, hx, q⟩ := h
    refine ⟨_, pss_cons (ps_expr (caK cW hr (by decide) (by rfl) (pa_cons (pv 1) pa_nil) (pk_cons (mt0 cLt hr (by decide) (pv 0)) pk_nil)))
      (pss_one (ps_ret (ca cP hr (by decide) (by rfl) (pa_cons (ca cL hr (by decide) (by rfl) (pa_cons (pv 0) pa_nil)) (pa_cons (pv 1) pa_nil))))), ?_⟩
    obtain ⟨dx, l, eM, A0⟩ := id Mt
    refine ⟨_, rfl, _, rfl, p, dx, _, rfl, eM, f_none m l, p, m, rfl, Mt, rfl, rfl, x, m.letters, rfl, O.l, W, fun H1 s1 => ?_⟩
    refine ⟨_, rfl, p, B, m, rfl, Mt.mono s1, O, hB, fun y L H2 s2 ML OL Ls => ?_⟩
    refine ⟨_, rfl, y, B + B, L, x, rfl, ML, OL, by omega, by rw [Ls.letters]; exact W, hx, fun D H3 s3 hD eD => ?_⟩
    refine q D H3 (s1.trans (s2.trans s3)) ((s1.trans s2).free hD) ?_
    rw [seams_least Ls W]
    exact eD
/-! ### no_seam -/
abbrev sNoSeam : Stmt := top 34
abbrev nNoSeam : List Str := ["machine", "word", "k", "told", "room", "begin"]
theorem scNoSeam : FnScope nNoSeam ["machine", "word", "k"] (defScope sNoSeam) := ⟨rfl, rfl, rfl, by decide +kernel, rfl, by decide +kernel, by decide +kernel⟩
def spNoSeam (C : Addr) : Sp := fun vs H Q _ => ∃ (p B k : Nat) (m : M) (x : Tx), vs = [.ref p, tx x, nn k] ∧ MAt C H p m ∧ MOk B m ∧ B ≤ 100000 ∧ Wd m.letters x ∧ k ≤ x.length ∧ B * x.length ≤ 100000 ∧ x.length ≤ 1000000 ∧
  ∀ r H', Same H H' → NoSeam m (x.take k) r → (∀ y, r = some y → y.length ≤ m.rooms.length * m.rooms.length) → Q (optV r) H'
theorem ok_noSeam (F : FnP K "no_seam" "no_seam" sNoSeam f fd) (T : Txt K mg C) (cW : CalK P w K mg base 3 "want_word" 1 ["letters"] spWantW gApp) (cLt : Met P w K mg base 1 C "letters" (spLets C)) (cFi : Met P w K mg base 1 C "first" (spFirst C)) (cTo : Met P w K mg base 4 C "told" (spTold C)) (cRo : Met P w K mg base 5 C "row" (spRow C))
    (cWh : Cal P w K mg base 1 "is_whole" spWhole []) (cRe : Cal P w K mg base 2 "rests" spRests []) (cP : Cal P w K mg base 4 "first_parting" (spPart C) []) : FnOk P w K mg base CX0 6 f fd ["machine", "word", "k"] (spNoSeam C) := by
  refine okD F scNoSeam (fun vs H Q E h => ?_) (fun cdv A outer s H vs Q E hr h => ?_)
  · obtain ⟨p, B, k, m, x, rfl, _⟩ := h
    rfl
  · obtain ⟨p, B, k, m, x, rfl, Mt, O, hB, W, hk, hx, hx0, q⟩ := h
    refine ⟨_, pss_cons (ps_expr (caK cW hr (by decide) (by rfl) (pa_cons (pv 1) pa_nil) (pk_cons (mt0 cLt hr (by decide) (pv 0)) pk_nil)))
      (pss_cons (ps_if (L2.PW.pt (pw_or (pt_not (pt_val (ca cWh hr (by decide) (by rfl) (pa_cons (pv 2) pa_nil)))) (pw_or1 (pt_not (pt_chain op_le op_le pe_int (pv 2) (pe_callB call_len_str (by rfl) T.len PySem.boot_len (pa_cons (pv 1) pa_nil))))))) (pss_one ps_never) pss_nil)
      (pss_cons (ps_asg (mt cTo hr (by decide) (pv 0) (pa_cons (pe_slice sl_str (pv 1) po_none (po_some (pv 2))) pa_nil)) (pg_tup rfl (pgs_cons (pg_name (i := 3) scNoSeam.nd rfl (.inl rfl)) (pgs_cons (pg_name (i := 4) scNoSeam.nd rfl (.inl rfl)) pgs_nil))))
      (pss_cons (ps_set (i := 5) scNoSeam.nd rfl (.inl rfl) (pe_op op_catA (pe_tup (pa_cons (pv 4) (pa_cons pe_int pa_nil))) (ca cRe hr (by decide) (by rfl) (pa_cons (pv 3) (pa_cons (pe_op op_add_str (mt cRo hr (by decide) (pv 0) (pa_cons (pe_slice sl_str (pv 1) po_none (po_some (pv 2))) pa_nil)) (mt0 cFi hr (by decide) (pv 0))) pa_nil)))))
      (pss_one (ps_ret (pe_ix ix_tup (ca cP hr (by decide) (by rfl) (pa_cons (pv 0) (pa_cons (pv 0) (pa_cons (pv 5) pa_nil)))) pe_int (fun _ _ => rfl))))))), ?_⟩
    obtain ⟨dx, l, eM, A0⟩ := id Mt
    refine ⟨_, rfl, _, rfl, p, dx, _, rfl, eM, f_none m l, p, m, rfl, Mt, rfl, rfl, x, m.letters, rfl, O.l, W, fun H1 s1 => ?_⟩
    have hxl : B * (x.take k).length ≤ 100000 := Nat.le_trans (Nat.mul_le_mul_left B (by rw [List.length_take]; omega)) hx
    have zx : (SS x).length ≤ sizeLine := by rw [ss_len]; exact line_ok (by omega)
    refine ⟨_, rfl, (k : Int), rfl, true, rfl, iteF ?_⟩
    refine ⟨_, rfl, _, _, rfl, rfl, _, rfl, ?_⟩
    rw [decide_eq_true (by omega : (0 : Int) ≤ (k : Int))]
    refine iteT ⟨_, rfl, SS x, rfl, zx, _, _, rfl, rfl, _, rfl, ?_⟩
    rw [decide_eq_true (by rw [ss_len]; omega : (k : Int) ≤ ((SS x).length : Int))]
    refine iteF ?_
    refine ⟨_, rfl, p, dx, _, rfl, s1 _ _ eM, f_none m l, _, rfl, _, rfl, _, rfl, SS x, rfl, zx, p, B, x.take k, m, by rw [cut_to]; rfl, Mt.mono s1, O, by omega, W.take k, by omega, fun t H2 s2 et => ?_⟩
    have s12 := s1.trans s2
    refine ⟨t, _, rfl, SqT.of et, rfl, _, _, rfl, _, _, rfl, rfl, ?_⟩
    refine ⟨_, rfl, two_ok, fun t3 ht3 => ?_⟩
    have s3 := s12.up (o := .tup [nn (m.room (x.take k)), .int 0]) ht3
    have wl := O.r.walk_len (x.take k) 0 O.r.pos (W.take k)
    have fl := O.fl
    have kl := O.r.walk_lt (x.take k) 0 O.r.pos (W.take k)
    have el := (O.r.room_at kl).2.1
    have rl : (m.row (x.take k)).length ≤ B + (B * (x.take k).length + B) := by
      unfold M.row rowF
      rw [List.length_append, List.length_append]
      omega
    refine ⟨_, rfl, _, rfl, p, dx, _, rfl, s3 _ _ eM, f_none m l, _, rfl, _, rfl, _, rfl, SS x, rfl, zx, p, B, x.take k, m, by rw [cut_to]; rfl, Mt.mono s3, O, by omega, W.take k, by omega, fun H4 s4 => ?_⟩
    refine ⟨_, rfl, p, dx, _, rfl, s4 _ _ (s3 _ _ eM), f_none m l, p, m, rfl, (Mt.mono s3).mono s4, _, _, rfl, rfl, by rw [ss_len, ss_len]; exact line_ok (by omega), ?_⟩
    refine ⟨m.first ++ (walkF m.letters m.rooms 0 (x.take k)).1, m.row (x.take k) ++ m.first, by rw [ss_app]; rfl, by rw [List.length_append]; omega, by rw [List.length_append]; omega, fun t5 H5 s5 e5 => ?_⟩
    refine ⟨t3, t5, _, _, rfl, rfl, SqT.of (s5 _ _ (s4 _ _ upd_same)), SqT.of e5, line_ok (by show 2 + 2 ≤ 16000000; decide), fun z => (nomatch z), fun _ z => (nomatch z), fun _ _ t6 ht6 => ?_⟩
    have s6 := ((s3.trans s4).trans s5).up (o := .tup ([nn (m.room (x.take k)), .int 0] ++ [tx (rests (m.first ++ (walkF m.letters m.rooms 0 (x.take k)).1) (m.row (x.take k) ++ m.first)).1, tx (rests (m.first ++ (walkF m.letters m.rooms 0 (x.take k)).1) (m.row (x.take k) ++ m.first)).2])) ht6
    have hr1 := rests_len1 (m.first ++ (walkF m.letters m.rooms 0 (x.take k)).1) (m.row (x.take k) ++ m.first)
    have hr2 := rests_len2 (m.first ++ (walkF m.letters m.rooms 0 (x.take k)).1) (m.row (x.take k) ++ m.first)
    rw [List.length_append] at hr1 hr2
    refine ⟨_, rfl, _, rfl, _, rfl, p, t6, B, 1000000, m, beginOf m (x.take k), rfl, Mt.mono s6, O, by omega, Nat.le_refl _, upd_same, begin_ok O (W.take k), ?_, ?_, fun t7 O7 r H7 s7 e7 hF hl => ⟨t7, _, 0, _, rfl, rfl, SqT.of e7, rfl, q r H7 (s6.trans s7) (NoSeam.of hF) hl⟩⟩
    · show (rests _ _).1.length ≤ _
      omega
    · show (rests _ _).2.length ≤ _
      omega
/-! ### pieces -/
theorem cutV_from (xs : List V) (n : Nat) : cutV xs (some (n : Int)) none = xs.drop n := by
  unfold cutV
  have h1 : HT.sIx xs.length 0 (some (n : Int)) = min n xs.length := HT.sIx_nat _ _ _
  have h2 : HT.sIx xs.length xs.length none = xs.length := rfl
  rw [h1, h2]
  by_cases h : n ≤ xs.length
  · rw [Nat.min_eq_left h, List.take_of_length_le (by rw [List.length_drop]; omega)]
  · rw [Nat.min_eq_right (by omega), List.drop_of_length_le (by omega : xs.length ≤ n)]
    simp
abbrev sPieces : Stmt := top 35
abbrev nPieces : List Str := ["machine", "word", "cuts", "one", "other"]
theorem scPieces : FnScope nPieces ["machine", "word"] (defScope sPieces) := ⟨rfl, rfl, rfl, by decide +kernel, rfl, by decide +kernel, by decide +kernel⟩
def spPieces (C : Addr) : Sp := fun vs H Q _ => ∃ (p B : Nat) (m : M) (x : Tx), vs = [.ref p, tx x] ∧ MAt C H p m ∧ MOk B m ∧ B ≤ 100000 ∧ Wd m.letters x ∧ x.length ≤ 1000000 ∧ ∀ D H', Same H H' → H D = none → H' D = some (.lst ((piecesL m x).map tx)) → Q (.ref D) H'
theorem ok_pieces (F : FnP K "pieces" "pieces" sPieces f fd) (T : Txt K mg C) (cS : Cal P w K mg base 8 "seams" (spSeams C) []) : FnOk P w K mg base CX0 9 f fd ["machine", "word"] (spPieces C) := by
  refine okD F scPieces (fun vs H Q E h => ?_) (fun cdv A outer s H vs Q E hr h => ?_)
  · obtain ⟨p, B, m, x, rfl, _⟩ := h
    rfl
  · obtain ⟨p, B, m, x, rfl, Mt, O, hB, W, hx, q⟩ := h
    refine ⟨_, pss_cons (ps_set (i := 2) scPieces.nd rfl (.inl rfl) (pe_op op_cat (pe_op op_cat (pe_lst (pa_cons pe_int pa_nil)) (ca cS hr (by decide) (by rfl) (pa_cons (pv 0) (pa_cons (pv 1) pa_nil)))) (pe_lst (pa_cons (pe_callB call_len_str (by rfl) T.len PySem.boot_len (pa_cons (pv 1) pa_nil)) pa_nil))))
      (pss_one (ps_ret (pe_lc (own := [("one", 3), ("other", 4)]) (g := gTup K 2 (gCons (gName 3) (gCons (gName 4) gNil))) rfl scPieces.nd (pi_zip (by rfl) T.zip (pa_cons (pv 2) (pa_cons (pe_slice sl_list (pv 2) (po_some pe_int) po_none) pa_nil))) (blkOk_by (N := nPieces) (sc := defScope sPieces) (by decide +kernel))
        (fun _ _ _ _ _ => pg_tup rfl (pgs_cons (pg_name (i := 3) scPieces.nd rfl (Or.inl rfl)) (pgs_cons (pg_name (i := 4) scPieces.nd rfl (Or.inl rfl)) pgs_nil))) (fun _ _ _ _ _ => pts_one (pt_cmpR op_lt (pv 3) (pv 4) (nomark _)))
        (fun _ _ _ _ _ => pe_slice sl_str (pv 1) (po_some (pv 3)) (po_some (pv 4)))))), ?_⟩
    have zx : (SS x).length ≤ sizeLine := by rw [ss_len]; exact line_ok (by omega)
    have hsl : (seamsL m x).length ≤ x.length + 1 := by
      unfold seamsL
      have := List.length_filter_le (fun i => seamB m (x.take i)) (List.range (x.length + 1))
      rwa [List.length_range] at this
    refine ⟨line_ok (by show 1 ≤ 16000000; decide), fun a1 h1 => ?_⟩
    have s1 := same_upd (o := .lst [.int 0]) h1
    refine ⟨_, rfl, _, rfl, p, B, m, x, rfl, Mt.mono s1, O, hB, W, hx, fun a2 H2 s2 h2 e2 => ?_⟩
    refine ⟨a1, a2, _, _, rfl, rfl, s2 _ _ upd_same, e2, line_ok (by rw [List.length_map]; show 1 + _ ≤ _; omega), fun a3 h3 => ?_⟩
    refine ⟨_, rfl, SS x, rfl, zx, line_ok (by show 1 ≤ 16000000; decide), fun a4 h4 => ?_⟩
    refine ⟨a3, a4, _, _, rfl, rfl, (same_upd h4) _ _ upd_same, upd_same, line_ok (by rw [List.length_append, List.length_map]; show 1 + _ + 1 ≤ _; omega), fun a5 h5 => ?_⟩
    have ecut : [V.int 0] ++ (seamsL m x).map nn ++ [V.int ((SS x).length : Nat)] = (cutsOf (seamsL m x) x).map nn := by
      unfold cutsOf
      rw [List.map_append, List.map_append, ss_len]
      rfl
    rw [ecut]
    have s5 := (((s1.trans s2).up (o := .lst ([V.int 0] ++ (seamsL m x).map nn)) h3).up (o := .lst [V.int ((SS x).length : Nat)]) h4).up (o := .lst ((cutsOf (seamsL m x) x).map nn)) h5
    have e5 : (upd (upd (upd H2 a3 (.lst ([V.int 0] ++ (seamsL m x).map nn))) a4 (.lst [V.int ((SS x).length : Nat)])) a5 (.lst ((cutsOf (seamsL m x) x).map nn))) a5 = some (.lst ((cutsOf (seamsL m x) x).map nn)) := upd_same
    revert s5 e5
    generalize (upd (upd (upd H2 a3 (.lst ([V.int 0] ++ (seamsL m x).map nn))) a4 (.lst [V.int ((SS x).length : Nat)])) a5 (.lst ((cutsOf (seamsL m x) x).map nn))) = H5
    intro s5 e5
    have hcl : ∀ c ∈ cutsOf (seamsL m x) x, c ≤ x.length := fun c hc => by
      unfold cutsOf at hc
      rcases List.mem_append.mp hc with h | h
      · rcases List.mem_append.mp h with h | h
        · rw [List.mem_singleton.mp h]; exact Nat.zero_le _
        · exact (mem_seams.mp h).1
      · rw [List.mem_singleton.mp h]; exact Nat.le_refl _
    have hclen : (cutsOf (seamsL m x) x).length ≤ 1000004 := by
      unfold cutsOf
      rw [List.length_append, List.length_append]
      show 1 + _ + 1 ≤ _
      omega
    refine ⟨_, rfl, _, rfl, 1, rfl, a5, _, rfl, SqL.of e5, fun a6 h6 => ?_⟩
    have ed := cutV_from ((cutsOf (seamsL m x) x).map nn) 1
    rw [show ((1 : Nat) : Int) = 1 from rfl] at ed
    rw [ed, ← List.map_drop]
    have s6 := s5.up (o := .lst (((cutsOf (seamsL m x) x).drop 1).map nn)) h6
    have e6 := (same_upd (o := .lst (((cutsOf (seamsL m x) x).drop 1).map nn)) h6) _ _ e5
    have e62 : (upd H5 a6 (.lst (((cutsOf (seamsL m x) x).drop 1).map nn))) a6 = some (.lst (((cutsOf (seamsL m x) x).drop 1).map nn)) := upd_same
    revert s6 e6 e62
    generalize (upd H5 a6 (.lst (((cutsOf (seamsL m x) x).drop 1).map nn))) = H6
    intro s6 e6 e62
    generalize hcs : cutsOf (seamsL m x) x = cs at *
    have zlen : (cs.zip (cs.drop 1)).length = min (cs.map nn).length ((cs.drop 1).map nn).length := by rw [List.length_zip, List.length_map, List.length_map]
    refine ⟨a5, a6, _, _, rfl, SqL.of e6, SqL.of e62, fun D hD => lc_it (walk_zip (a := a5) (b := a6) (xs := cs.map nn) (ys := (cs.drop 1).map nn) (n := (cs.zip (cs.drop 1)).length) zlen) (fun i H7 => Same H6 H7 ∧ H7 D = some (.lst (((((cs.zip (cs.drop 1)).take i).filter fun p => decide (p.1 < p.2)).map (sub x)).map tx))) ⟨same_upd hD, upd_same⟩ (fun i H7 _ h => ⟨SqL.of (h.1 _ _ e6), SqL.of (h.1 _ _ e62)⟩) ?_ ?_⟩
    · rintro i v H7 H8 hi ⟨s7, eD⟩ ⟨t, u1, u2, rfl, hn, rfl, ex1, ex2⟩
      replace ex1 : (cs.map nn)[i]? = some u1 := ex1
      replace ex2 : ((cs.drop 1).map nn)[i]? = some u2 := ex2
      have ei := List.getElem?_eq_getElem hi
      have eii : (cs.zip (cs.drop 1))[i] = (cs[i]'(by rw [List.length_zip] at hi; omega), (cs.drop 1)[i]'(by rw [List.length_zip] at hi; omega)) := List.getElem_zip
      have hi1 : i < cs.length := by rw [List.length_zip] at hi; omega
      have hi2 : i < (cs.drop 1).length := by rw [List.length_zip] at hi; omega
      rw [eii] at ei
      have m1 := hcl _ (List.getElem_mem hi1)
      have m2 := hcl _ (List.mem_of_mem_drop (List.getElem_mem hi2))
      rw [List.getElem?_map, List.getElem?_eq_getElem hi1] at ex1
      rw [List.getElem?_map, List.getElem?_eq_getElem hi2] at ex2
      generalize cs[i] = c1 at *
      generalize (cs.drop 1)[i] = c2 at *
      cases ex1
      cases ex2
      have su := same_upd (o := .tup [nn c1, nn c2]) hn
      refine ⟨t, _, rfl, SqT.of upd_same, rfl, _, _, rfl, _, _, rfl, rfl, rfl, ?_⟩
      refine ⟨_, rfl, _, rfl, _, _, rfl, rfl, _, rfl, ?_⟩
      rw [take_snoc ei, List.filter_append]
      by_cases hc : c1 < c2
      · rw [decide_eq_true (by omega : (c1 : Int) < (c2 : Int))]
        refine iteT ⟨_, rfl, _, rfl, _, rfl, _, rfl, _, rfl, SS x, rfl, zx, ?_⟩
        rw [cut_in x c1 c2 (by omega) m2]
        refine ⟨_, su _ _ eD, line_lt ?_, (s7.trans su).put hD, ?_⟩
        · rw [List.length_map, List.length_map]
          have := List.length_filter_le (fun p : Nat × Nat => decide (p.1 < p.2)) ((cs.zip (cs.drop 1)).take i)
          rw [List.length_take, List.length_zip] at this
          omega
        · rw [upd_same, List.map_append, List.map_append]
          have : List.filter (fun p : Nat × Nat => decide (p.1 < p.2)) [(c1, c2)] = [(c1, c2)] := by simp [hc]
          rw [this]
          rfl
      · rw [decide_eq_false (by omega)]
        refine iteF ⟨s7.trans su, ?_⟩
        have : List.filter (fun p : Nat × Nat => decide (p.1 < p.2)) [(c1, c2)] = [] := by simp [hc]
        rw [this, List.append_nil]
        exact su _ _ eD
    · rintro H7 ⟨s7, eD⟩
      rw [List.take_length] at eD
      refine q D H7 (s6.trans s7) (s6.free hD) ?_
      unfold piecesL pcs
      rw [hcs]
      exact eD
end
end K70
namespace K70
open PySem PySem.Spec PyProof.Rows L2
theorem inV_nn (t : Nat) : ∀ bars : List Nat, inV (nn t) (bars.map nn) = decide (t ∈ bars)
  | [] => by simp [inV]
  | b :: bars => by
    have ih := inV_nn t bars
    unfold inV at ih ⊢
    rw [List.map_cons, List.any_cons, ih]
    have : eqV (nn b) (nn t) = decide (t = b) := by
      show ((b : Int) == (t : Int)) = _
      by_cases e : t = b
      · rw [e]; simp
      · rw [decide_eq_false e]
        exact beq_eq_false_iff_ne.mpr (by omega)
    rw [this]
    by_cases e : t = b <;> simp [e]
theorem flat_nn (bars : List Nat) : (bars.map nn).all flatV = true := by
  rw [List.all_eq_true]
  intro v hv
  obtain ⟨t, _, rfl⟩ := List.mem_map.mp hv
  rfl
def farV : List (Nat × Nat) → Nat → Nat
  | [], _ => 0
  | p :: r, t => if p.1 = t then p.2 else farV r t
def farD (far : List (Nat × Nat)) : List (Key × V) := far.map fun p => (Sum.inl (p.1 : Int), nn p.2)
theorem farD_in {t : Nat} : ∀ {far : List (Nat × Nat)}, t ∈ far.map (·.1) → valV (farD far) (Sum.inl (t : Int)) = some (nn (farV far t))
  | [], h => by cases h
  | p :: r, h => by
    show valV ((Sum.inl (p.1 : Int), nn p.2) :: farD r) _ = _
    unfold farV
    by_cases e : p.1 = t
    · rw [valV_pos (by rw [e]), if_pos e]
    · rw [valV_neg (by intro z; exact e (by have := Sum.inl.inj z; omega)), if_neg e]
      rcases List.mem_cons.mp h with q | q
      · exact absurd q.symm e
      · exact farD_in q
theorem farD_out {t : Nat} : ∀ {far : List (Nat × Nat)}, t ∉ far.map (·.1) → valV (farD far) (Sum.inl (t : Int)) = none
  | [], _ => rfl
  | p :: r, h => by
    show valV ((Sum.inl (p.1 : Int), nn p.2) :: farD r) _ = _
    rw [valV_neg (by intro z; exact h (List.mem_cons.mpr (.inl (by show t = p.1; have := Sum.inl.inj z; omega))))]
    exact farD_out fun q => h (List.mem_cons_of_mem _ q)
theorem farV_mem {t : Nat} : ∀ {far : List (Nat × Nat)}, t ∈ far.map (·.1) → (t, farV far t) ∈ far
  | [], h => by cases h
  | p :: r, h => by
    unfold farV
    by_cases e : p.1 = t
    · rw [if_pos e, ← e]; exact List.mem_cons_self
    · rw [if_neg e]
      rcases List.mem_cons.mp h with q | q
      · exact absurd q.symm e
      · exact List.mem_cons_of_mem _ (farV_mem q)
theorem FInv.val {rs : List Rm} {bars : List Nat} {far : List (Nat × Nat)} (I : FInv rs bars far) {q : Nat × Nat} (h : q ∈ far) : farV far q.1 = q.2 := by
  have h1 := farV_mem (List.mem_map.mpr ⟨q, h, rfl⟩)
  exact congrArg Prod.snd (I.uniq h1 h rfl)
theorem farD_put {far : List (Nat × Nat)} {k v : Nat} (h : k ∉ far.map (·.1)) : putK (farD far) (Sum.inl (k : Int)) (nn v) = farD (far ++ [(k, v)]) := by
  rw [putK_new _ (farD_out h)]
  unfold farD
  rw [List.map_append]
  rfl
section
variable {P : Program} {w : World} {K : PySem.W.Frag} {mg : Str → Option Value} {base : Heap} {C f : Addr} {fd : FuncData}
abbrev sFar : Stmt := top 36
abbrev nFar : List Str := ["rooms", "bars", "far", "more", "k", "end", "ways", "led", "text", "there"]
theorem scFar : FnScope nFar ["rooms", "bars"] (defScope sFar) := ⟨rfl, rfl, rfl, by decide +kernel, rfl, by decide +kernel, by decide +kernel⟩
def spFar : Sp := fun vs H Q _ => ∃ (a b B : Nat) (ls : Tx) (rs : List Rm) (bars : List Nat), vs = [.ref a, .ref b] ∧ RoomsAt H a rs ∧ H b = some (.lst (bars.map nn)) ∧ LOk ls ∧ ROk ls B rs ∧
  ∀ D far H', Same H H' → H D = none → H' D = some (.dK (farD far)) → Far rs bars far → Q (.ref D) H'
theorem ok_far (F : FnP K "far_of" "far_of" sFar f fd) (T : Txt K mg C) : FnOk P w K mg base CX0 1 f fd ["rooms", "bars"] spFar := by
  refine okD F scFar (fun vs H Q E h => ?_) (fun cdv A outer s H vs Q E hr h => ?_)
  · obtain ⟨a, b, B, ls, rs, bars, rfl, _⟩ := h
    rfl
  · obtain ⟨a, b, B, ls, rs, bars, rfl, A0, eb, L, R, q⟩ := h
    refine ⟨_, pss_cons (ps_set (i := 2) scFar.nd rfl (.inr rfl) pe_dnewK)
      (pss_cons (ps_set (i := 3) scFar.nd rfl (.inl rfl) pe_bl)
      (pss_cons (ps_while PassesOwn.never (pt_val (pv 3)) (pss_cons (ps_set (i := 3) scFar.nd rfl (.inl rfl) pe_bl)
        (pss_one (ps_for PassesOwn.never rfl (pi_enum (by rfl) T.enu (pa_cons (pv 0) pa_nil)) (pg_tup rfl (pgs_cons (pg_name (i := 4) scFar.nd rfl (.inl rfl)) (pgs_cons (pg_tup rfl (pgs_cons (pg_name (i := 5) scFar.nd rfl (.inl rfl)) (pgs_cons (pg_name (i := 6) scFar.nd rfl (.inl rfl)) pgs_nil))) pgs_nil)))
          (pss_cons (ps_setLc (i := 7) (own := [("text", 8), ("there", 9)]) (g := gTup K 2 (gCons (gName 8) (gCons (gName 9) gNil))) (tt := tTest (tOp (rIn K true) (tVar 9) (tVar 1))) rfl scFar.nd rfl rfl (sw_true rfl rfl rfl (by decide +kernel)) (pi_list (pv 6)) (blkOk_by (N := nFar) (sc := defScope sFar) (by decide +kernel))
            (fun _ _ _ _ _ => pg_tup rfl (pgs_cons (pg_name (i := 8) scFar.nd rfl (Or.inl rfl)) (pgs_cons (pg_name (i := 9) scFar.nd rfl (Or.inl rfl)) pgs_nil))) (fun _ _ _ _ _ => pts_one (pt_cmpR op_notIn_seq (pv 9) (pv 1) rfl)) (fun _ _ _ _ _ => pv 9))
          (pss_one (ps_if (L2.PW.pt (pw_and (pt_cmp (pc_dnotin (hu_of hr) (pv 4) (pv 2))) (pw_and1 (pt_val (pe_callB (cr_all rfl) (by rfl) T.all (by decide +kernel) (pa_cons (pe_lc (own := [("there", 9)]) (g := gName 9) (tt := tYes) rfl scFar.nd (pi_list (pv 7)) (blkOk_by (N := nFar) (sc := defScope sFar) (by decide +kernel))
              (fun _ _ _ _ _ => pg_name (i := 9) scFar.nd rfl (Or.inl rfl)) (fun _ _ _ _ _ => pts_nil) (fun _ _ _ _ _ => pe_cmp (pc_din (hu_of hr) (pv 9) (pv 2)))) pa_nil))))))
            (pss_cons (ps_dput (hu_of hr) (pv 2) (pv 4) (pe_callBK (cr_maxD rfl (hu_of hr)) (by rfl) T.max (by decide +kernel) (pa_cons (pe_lc (own := [("there", 9)]) (g := gName 9) (tt := tYes) rfl scFar.nd (pi_list (pv 7)) (blkOk_by (N := nFar) (sc := defScope sFar) (by decide +kernel))
              (fun _ _ _ _ _ => pg_name (i := 9) scFar.nd rfl (Or.inl rfl)) (fun _ _ _ _ _ => pts_nil) (fun _ _ _ _ _ => pe_op op_add pe_int (pe_dget (hu_of hr) (pv 2) (pv 9) (fun _ _ => rfl)))) pa_nil) (pk_cons pe_int pk_nil)) rfl)
            (pss_one (ps_set (i := 3) scFar.nd rfl (.inl rfl) pe_bl))) pss_nil)))))))
      (pss_one (ps_ret (pv 2))))), ?_⟩
    intro D hD
    have s0 : Same H (upd H D (.dK [])) := same_upd hD
    obtain ⟨vs, e0, hl, k0⟩ := id A0
    refine ⟨fun m σ H' => ∃ (far : List (Nat × Nat)) (sh : Bool) (z4 z5 z6 z7 : Option V), Same H H' ∧ H' D = some (.dK (farD far)) ∧ FInv rs bars far ∧ (sh = false → ∀ k, k < rs.length → k ∉ far.map (·.1) → ∃ t ∈ ledOf rs bars k, t ∉ far.map (·.1)) ∧ m = 2 * (rs.length - far.length) + (if sh then 1 else 0) ∧
      σ = [some (.ref a), some (.ref b), some (.ref D), some (.bl sh), z4, z5, z6, z7, none, none], ⟨_, [], true, none, none, none, none, s0, upd_same, FInv.start, fun z => (nomatch z), rfl, rfl⟩, ?_⟩
    rintro m σ H2 ⟨far0, sh, z4, z5, z6, z7, s2, e2, I, hf, rfl, rfl⟩
    refine ⟨_, rfl, sh, rfl, ?_⟩
    cases sh with
    | false => exact iteF ⟨_, rfl, q D far0 H2 s2 hD e2 ⟨I, hf rfl⟩⟩
    | true =>
      refine iteT ⟨Less _ _, less_ok, ?_⟩
      refine ⟨_, rfl, a, vs, rfl, SqL.of (s2 _ _ e0), for_it (walk_enum (a := a) (xs := vs)) (fun i σ H3 => ∃ (far : List (Nat × Nat)) (sh : Bool) (z4 z5 z6 z7 : Option V), Same H H3 ∧ H3 D = some (.dK (farD far)) ∧ FInv rs bars far ∧ (sh = false → far = far0 ∧ ∀ k, k < i → k < rs.length → k ∉ far.map (·.1) → ∃ t ∈ ledOf rs bars k, t ∉ far.map (·.1)) ∧ (sh = true → far0.length < far.length) ∧
        σ = [some (.ref a), some (.ref b), some (.ref D), some (.bl sh), z4, z5, z6, z7, none, none]) ⟨far0, false, z4, z5, z6, z7, s2, e2, I, fun _ => ⟨rfl, fun k h => absurd h (Nat.not_lt_zero _)⟩, fun z => (nomatch z), rfl⟩ (fun i σ H3 _ h => by obtain ⟨_, _, _, _, _, _, s3, _⟩ := h; exact SqL.of (s3 _ _ e0)) ?_ ?_⟩
      · rintro i x σ H3 H4 hi ⟨far, sh, z4, z5, z6, z7, s3, e3, J, hv, ht, rfl⟩ ⟨t, u1, u2, rfl, hn, rfl, ex1, ex2⟩
        replace ex2 : vs[i]? = some u2 := ex2
        cases ex1
        have hi' : i < rs.length := by omega
        obtain ⟨t0, p, rfl, et, ws, ew, lw, kw⟩ := k0 i u2 _ ex2 (List.getElem?_eq_getElem hi')
        rw [ends_at hi'] at et lw kw
        dsimp only at et lw kw
        have su := same_upd (o := .tup [.int (i : Nat), .ref t0]) hn
        have s4 := s3.trans su
        have e4 := su _ _ e3
        refine ⟨t, _, rfl, SqT.of upd_same, rfl, _, _, rfl, _, _, rfl, ⟨t0, _, rfl, SqT.of (s4 _ _ et), rfl, _, _, rfl, _, _, rfl, rfl, ?_⟩⟩
        refine ⟨rfl, ?_⟩
        generalize (upd H3 t (.tup [.int (i : Nat), .ref t0])) = H4 at *
        refine ⟨_, rfl, p, rfl, ⟨ws, SqL.of (s4 _ _ ew)⟩, fun G hG => lc_it (walk_list (a := p) (xs := ws)) (fun j H5 => Same H4 H5 ∧ H5 G = some (.lst (((((waysAt rs i).take j).map (·.2)).filter (fun t => decide (t ∉ bars))).map nn))) ⟨same_upd hG, upd_same⟩ (fun j H5 _ h => SqL.of (h.1 _ _ (s4 _ _ ew))) ?_ ?_⟩
        · rintro j x H5 H6 hj ⟨s5, e5⟩ ⟨rfl, ex⟩
          have hj' : j < (waysAt rs i).length := by omega
          have ej := List.getElem?_eq_getElem hj'
          obtain ⟨u, rfl, eu⟩ := kw j x _ ex ej
          have s6 := s4.trans s5
          refine ⟨u, _, rfl, SqT.of (s6 _ _ eu), rfl, _, _, rfl, _, _, rfl, rfl, rfl, ?_⟩
          refine ⟨_, rfl, _, rfl, b, _, rfl, .inl (SqL.of (s6 _ _ eb)), rfl, flat_nn bars, _, rfl, ?_⟩
          rw [inV_nn, take_snoc ej, List.map_append, List.filter_append, List.map_append]
          generalize (waysAt rs i)[j] = y at *
          by_cases h : y.2 ∈ bars
          · rw [decide_eq_true h]
            refine iteF ⟨s5, ?_⟩
            have : List.filter (fun t => decide (t ∉ bars)) (List.map (·.2) [y]) = [] := by simp [h]
            rw [this, List.map_nil, List.append_nil]
            exact e5
          · rw [decide_eq_false h]
            have : List.filter (fun t => decide (t ∉ bars)) (List.map (·.2) [y]) = [y.2] := by simp [h]
            refine iteT ⟨_, rfl, _, e5, line_lt ?_, s5.put hG, ?_⟩
            · rw [List.length_map]
              have h1 := List.length_filter_le (fun t => decide (t ∉ bars)) (List.map (·.2) (List.take j (waysAt rs i)))
              rw [List.length_map, List.length_take] at h1
              have h2 := (R.room_at hi').2.2.1
              have h3 := L.le
              omega
            · rw [this, upd_same]
              rfl
        rintro H5 ⟨s5, e5⟩
        rw [lw, List.take_length] at e5
        replace e5 : H5 G = some (.lst ((ledOf rs bars i).map nn)) := e5
        have e5D := s5 _ _ e4
        have s35 := s4.trans s5
        have hled : (ledOf rs bars i).length ≤ 16 := by
          unfold ledOf
          have h1 := List.length_filter_le (fun t => decide (t ∉ bars)) (List.map (·.2) (waysAt rs i))
          rw [List.length_map] at h1
          have h2 := (R.room_at hi').2.2.1
          have h3 := L.le
          omega
        have hgk := DGet.k (k := Sum.inl ((i : Nat) : Int)) e5D
        refine ⟨_, rfl, _, rfl, D, _, rfl, hgk, ?_⟩
        by_cases hin : i ∈ far.map (·.1)
        · rw [farD_in hin]
          refine ⟨false, rfl, iteF (iteF ?_)⟩
          refine ⟨far, sh, _, _, _, _, s35, e5D, J, fun z => ⟨(hv z).1, fun k hk hkl hkn => ?_⟩, ht, rfl⟩
          by_cases ek : k = i
          · exact absurd (ek ▸ hin) hkn
          · exact (hv z).2 k (by omega) hkl hkn
        · rw [farD_out hin]
          refine ⟨true, rfl, iteT ?_⟩
          refine ⟨_, rfl, G, rfl, ⟨_, SqL.of e5⟩, fun G2 hG2 => lc_it (walk_list (a := G) (xs := (ledOf rs bars i).map nn)) (fun j H6 => Same H5 H6 ∧ H6 G2 = some (.lst ((((ledOf rs bars i).take j).map fun t => decide (t ∈ far.map (·.1))).map V.bl))) ⟨same_upd hG2, upd_same⟩ (fun j H6 _ h => SqL.of (h.1 _ _ e5)) ?_ ?_⟩
          · rintro j x H6 H7 hj ⟨s6, e6⟩ ⟨rfl, ex⟩
            have hj' : j < (ledOf rs bars i).length := by rw [List.length_map] at hj; exact hj
            have ej := List.getElem?_eq_getElem hj'
            rw [List.getElem?_map, ej] at ex
            cases ex
            refine ⟨rfl, _, rfl, _, rfl, D, _, rfl, DGet.k (k := Sum.inl (((ledOf rs bars i)[j] : Nat) : Int)) (s6 _ _ e5D), ?_⟩
            refine ⟨_, e6, line_lt (by rw [List.length_map, List.length_map, List.length_take]; omega), s6.put hG2, ?_⟩
            rw [upd_same, take_snoc ej, List.map_append, List.map_append]
            by_cases h : (ledOf rs bars i)[j] ∈ far.map (·.1)
            · rw [farD_in h]
              simp only [List.map_cons, List.map_nil, decide_eq_true h]
              rfl
            · rw [farD_out h]
              simp only [List.map_cons, List.map_nil, decide_eq_false h]
              rfl
          rintro H6 ⟨s6, e6⟩
          rw [List.length_map, List.take_length] at e6
          refine ⟨G2, _, rfl, SqL.of e6, _, rfl, ?_⟩
          have s36 := s35.trans s6
          have e6D := s6 _ _ e5D
          by_cases hall : ∀ t ∈ ledOf rs bars i, t ∈ far.map (·.1)
          · have : (List.map (fun t => decide (t ∈ far.map (·.1))) (ledOf rs bars i)).all id = true := by
              rw [List.all_eq_true]
              intro z hz
              obtain ⟨t, ht, rfl⟩ := List.mem_map.mp hz
              exact decide_eq_true (hall t ht)
            rw [this]
            refine iteT ?_
            refine ⟨_, rfl, G, rfl, ⟨_, SqL.of (s6 _ _ e5)⟩, fun G3 hG3 => lc_it (walk_list (a := G) (xs := (ledOf rs bars i).map nn)) (fun j H7 => Same H6 H7 ∧ H7 G3 = some (.lst ((((ledOf rs bars i).take j).map fun t => (1 + (farV far t : Int))).map V.int))) ⟨same_upd hG3, upd_same⟩ (fun j H7 _ h => SqL.of (h.1 _ _ (s6 _ _ e5))) ?_ ?_⟩
            · rintro j x H7 H8 hj ⟨s7, e7⟩ ⟨rfl, ex⟩
              have hj' : j < (ledOf rs bars i).length := by rw [List.length_map] at hj; exact hj
              have ej := List.getElem?_eq_getElem hj'
              rw [List.getElem?_map, ej] at ex
              cases ex
              have hg := DGet.k (k := Sum.inl (((ledOf rs bars i)[j] : Nat) : Int)) (s7 _ _ e6D)
              rw [farD_in (hall _ (List.getElem_mem hj'))] at hg
              refine ⟨rfl, _, rfl, _, rfl, D, _, rfl, hg, _, _, rfl, rfl, ?_⟩
              refine ⟨_, e7, line_lt (by rw [List.length_map, List.length_map, List.length_take]; omega), s7.put hG3, ?_⟩
              rw [upd_same, take_snoc ej, List.map_append, List.map_append]
              rfl
            rintro H7 ⟨s7, e7⟩
            rw [List.length_map, List.take_length] at e7
            have s37 := s36.trans s7
            have e7D := s7 _ _ e6D
            have fin : ∀ v : Nat, (∀ t ∈ ledOf rs bars i, ∃ q ∈ far, q.1 = t ∧ q.2 + 1 ≤ v) → (v = 0 ∨ ∃ t ∈ ledOf rs bars i, ∃ q ∈ far, q.1 = t ∧ q.2 + 1 = v) → FInv rs bars (far ++ [(i, v)]) ∧ farD (far ++ [(i, v)]) = putK (farD far) (Sum.inl ((i : Nat) : Int)) (nn v) :=
              fun v h1 h2 => ⟨J.add hi' hin h1 h2, (farD_put hin).symm⟩
            have hlen := J.len_le
            have hlt : (farD far).length < sizeLine := line_lt (by unfold farD; rw [List.length_map]; have := R.le; omega)
            have step : ∀ v : Nat, FInv rs bars (far ++ [(i, v)]) ∧ farD (far ++ [(i, v)]) = putK (farD far) (Sum.inl ((i : Nat) : Int)) (nn v) → ∃ (far' : List (Nat × Nat)) (sh : Bool) (z4 z5 z6 z7 : Option V), Same H (upd H7 D (.dK (putK (farD far) (Sum.inl ((i : Nat) : Int)) (nn v)))) ∧ (upd H7 D (.dK (putK (farD far) (Sum.inl ((i : Nat) : Int)) (nn v)))) D = some (.dK (farD far')) ∧ FInv rs bars far' ∧ (sh = false → far' = far0 ∧ ∀ k, k < i + 1 → k < rs.length → k ∉ far'.map (·.1) → ∃ t ∈ ledOf rs bars k, t ∉ far'.map (·.1)) ∧ (sh = true → far0.length < far'.length) ∧
                [some (.ref a), some (.ref b), some (.ref D), some (.bl true), some (.int (i : Nat)), some (tx (endAt rs i)), some (.ref p), some (.ref G), none, none] = [some (V.ref a), some (.ref b), some (.ref D), some (.bl sh), z4, z5, z6, z7, none, none] := by
              rintro v ⟨F1, F2⟩
              refine ⟨far ++ [(i, v)], true, _, _, _, _, s37.put hD, by rw [upd_same, F2], F1, fun z => (nomatch z), fun _ => ?_, rfl⟩
              rw [List.length_append]
              cases sh with
              | false => rw [(hv rfl).1]; show _ < _ + 1; omega
              | true => have := ht rfl; show _ < _ + 1; omega
            refine ⟨G3, _, _, rfl, rfl, SqL.of e7, fun hnil => ?_, fun mx hmx hge => ?_⟩
            · have hled0 : ledOf rs bars i = [] := by
                cases h : ledOf rs bars i with
                | nil => rfl
                | cons t r => rw [h] at hnil; cases hnil
              refine ⟨_, rfl, _, rfl, D, _, rfl, DPut.k (k := Sum.inl ((i : Nat) : Int)) e7D hlt, ?_⟩
              exact step 0 (fin 0 (fun t ht => by rw [hled0] at ht; cases ht) (.inl rfl))
            · obtain ⟨t0, ht0, rfl⟩ := List.mem_map.mp hmx
              refine ⟨_, rfl, _, rfl, D, _, rfl, DPut.k (k := Sum.inl ((i : Nat) : Int)) e7D hlt, ?_⟩
              have hv1 : V.int (1 + (farV far t0 : Int)) = nn (farV far t0 + 1) := congrArg V.int (by omega)
              rw [hv1]
              refine step (farV far t0 + 1) (fin _ (fun t ht => ⟨_, farV_mem (hall t ht), rfl, ?_⟩) (.inr ⟨t0, ht0, _, farV_mem (hall t0 ht0), rfl, rfl⟩))
              have := hge _ (List.mem_map.mpr ⟨t, ht, rfl⟩)
              show farV far t + 1 ≤ _
              omega
          · have : (List.map (fun t => decide (t ∈ far.map (·.1))) (ledOf rs bars i)).all id = false := by
              cases hb : (List.map (fun t => decide (t ∈ far.map (·.1))) (ledOf rs bars i)).all id with
              | false => rfl
              | true =>
                rw [List.all_eq_true] at hb
                exact absurd (fun t ht => of_decide_eq_true (hb _ (List.mem_map.mpr ⟨t, ht, rfl⟩))) hall
            rw [this]
            refine iteF ?_
            refine ⟨far, sh, _, _, _, _, s36, e6D, J, fun z => ⟨(hv z).1, fun k hk hkl hkn => ?_⟩, ht, rfl⟩
            by_cases ek : k = i
            · rw [ek]
              exact Classical.byContradiction fun hno => hall fun t ht => Classical.byContradiction fun hnt => hno ⟨t, ht, hnt⟩
            · exact (hv z).2 k (by omega) hkl hkn
      · rintro σ H3 ⟨far, sh, z4, z5, z6, z7, s3, e3, J, hv, ht, rfl⟩
        have hlen := J.len_le
        cases sh with
        | false =>
          obtain ⟨rfl, hk⟩ := hv rfl
          exact ⟨2 * (rs.length - far.length), by show _ < 2 * (rs.length - far.length) + 1; omega, far, false, z4, z5, z6, z7, s3, e3, J, fun _ k h => hk k (by omega) h, rfl, rfl⟩
        | true =>
          have := ht rfl
          exact ⟨2 * (rs.length - far.length) + 1, by show _ < 2 * (rs.length - far0.length) + 1; omega, far, true, z4, z5, z6, z7, s3, e3, J, fun z => (nomatch z), rfl, rfl⟩
end
end K70
namespace K70
open PySem PySem.Spec PyProof.Rows L2
theorem FInv.val_le {rs : List Rm} {bars : List Nat} {far : List (Nat × Nat)} (I : FInv rs bars far) {t : Nat} (h : t ∈ far.map (·.1)) : farV far t ≤ rs.length := by
  obtain ⟨i, hi, e⟩ := List.mem_iff_getElem.mp (farV_mem h)
  have h1 := I.ix i _ (by rw [List.getElem?_eq_getElem hi, e])
  have h2 := I.len_le
  dsimp only at h1
  omega
section
variable {P : Program} {w : World} {K : PySem.W.Frag} {mg : Str → Option Value} {base : Heap} {C f : Addr} {fd : FuncData}
abbrev sLong : Stmt := top 37
abbrev nLong : List Str := ["least", "far", "bars", "word", "room", "left", "sign", "text", "there"]
theorem scLong : FnScope nLong ["least", "far", "bars"] (defScope sLong) := ⟨rfl, rfl, rfl, by decide +kernel, rfl, by decide +kernel, by decide +kernel⟩
def spLong (C : Addr) : Sp := fun vs H Q _ => ∃ (p a b B : Nat) (L : M) (far : List (Nat × Nat)) (bars : List Nat), vs = [.ref p, .ref a, .ref b] ∧ MAt C H p L ∧ MOk B L ∧ H a = some (.dK (farD far)) ∧ H b = some (.lst (bars.map nn)) ∧ FInv L.rooms bars far ∧ 0 ∈ far.map (·.1) ∧
  ∀ y H', Same H H' → Q (tx y) H'
theorem ok_long (F : FnP K "longest_way" "longest_way" sLong f fd) (T : Txt K mg C) (cLt : Met P w K mg base 1 C "letters" (spLets C)) : FnOk P w K mg base CX0 2 f fd ["least", "far", "bars"] (spLong C) := by
  refine okD F scLong (fun vs H Q E h => ?_) (fun cdv A outer s H vs Q E hr h => ?_)
  · obtain ⟨p, a, b, B, L, far, bars, rfl, _⟩ := h
    rfl
  · obtain ⟨p, a, b, B, L, far, bars, rfl, Mt, O, ea, eb, I, h0, q⟩ := h
    refine ⟨_, pss_cons (ps_set (i := 3) scLong.nd rfl (.inl rfl) pe_str)
      (pss_cons (ps_set (i := 4) scLong.nd rfl (.inl rfl) pe_int)
      (pss_cons (ps_while PassesOwn.never (pt_cmpR op_gt (pe_dget (hu_of hr) (pv 1) (pv 4) (fun _ _ => rfl)) pe_int (nomark _))
        (pss_cons (ps_set (i := 5) scLong.nd rfl (.inl rfl) (pe_op op_sub (pe_dget (hu_of hr) (pv 1) (pv 4) (fun _ _ => rfl)) pe_int))
        (pss_one (ps_for PassesOwn.never rfl (pi_zipS (by rfl) T.zip (pa_cons (mt0 cLt hr (by decide) (pv 0)) (pa_cons (pe_ix ix_tup (pe_ix ix_list (pe_fld (pv 0) rfl) (pv 4) (fun _ _ => rfl)) pe_int (fun _ _ => rfl)) pa_nil)))
            (pg_tup rfl (pgs_cons (pg_name (i := 6) scLong.nd rfl (.inl rfl)) (pgs_cons (pg_tup rfl (pgs_cons (pg_name (i := 7) scLong.nd rfl (.inl rfl)) (pgs_cons (pg_name (i := 8) scLong.nd rfl (.inl rfl)) pgs_nil))) pgs_nil)))
          (pss_one (ps_if (L2.PW.pt (pw_and (pt_cmpR op_notIn_seq (pv 8) (pv 2) rfl) (pw_and1 (pt_cmpR op_eq (pe_dget (hu_of hr) (pv 1) (pv 8) (fun _ _ => rfl)) (pv 5) (nomark _)))))
            (pss_cons (ps_aug (i := 3) scLong.nd rfl (.inl rfl) (pv 6) ip_addS) (pss_cons (ps_set (i := 4) scLong.nd rfl (.inl rfl) (pv 8)) (pss_one ps_break))) pss_nil))))))
      (pss_one (ps_ret (pv 3))))), ?_⟩
    obtain ⟨dx, l, eM, A0⟩ := id Mt
    refine ⟨fun m σ H' => ∃ (r : Nat) (y : Tx) (z5 z6 z7 z8 : Option V), Same H H' ∧ r ∈ far.map (·.1) ∧ m = farV far r ∧ y.length + farV far r ≤ 200 ∧ σ = [some (.ref p), some (.ref a), some (.ref b), some (tx y), some (nn r), z5, z6, z7, z8],
      ⟨_, 0, [], none, none, none, none, Same.refl _, h0, rfl, by have := I.val_le h0; have := O.r.le; simp; omega, rfl⟩, ?_⟩
    rintro m σ H1 ⟨r, y, z5, z6, z7, z8, s1, hr0, rfl, hy, rfl⟩
    have hg := DGet.k (k := Sum.inl ((r : Nat) : Int)) (s1 _ _ ea)
    rw [farD_in hr0] at hg
    have hmem := farV_mem hr0
    have hrl := I.lt _ hmem
    dsimp only at hrl
    refine ⟨_, rfl, _, rfl, a, _, rfl, hg, _, _, rfl, rfl, _, rfl, ?_⟩
    by_cases hpos : 0 < farV far r
    · rw [decide_eq_true (by omega : (farV far r : Int) > 0)]
      refine iteT ⟨Less _ _, less_ok, ?_⟩
      obtain ⟨vs, t1, p1, ws, f1, _, f2, f3, f4, l1, k1⟩ := A0.room hrl
      have hwl := (O.r.room_at hrl).2.2.1
      refine ⟨_, rfl, _, rfl, a, _, rfl, hg, _, _, rfl, rfl, ?_⟩
      have ezl : (L.letters.map sgn).length = ws.length := by rw [List.length_map]; omega
      refine ⟨_, rfl, p, dx, _, rfl, s1 _ _ eM, f_none L l, p, L, rfl, Mt.mono s1, _, rfl, p, C, dx, _, _, rfl, s1 _ _ eM, T.cl, T.nM, f_made L l, _, rfl, l, vs, _, _, rfl, rfl, SqL.of (s1 _ _ f1), atI_nat f2, t1, _, 1, .ref p1, rfl, rfl, SqT.of (s1 _ _ f3), rfl, ?_⟩
      refine ⟨_, _, L.letters.map sgn, ws, rfl, by show L.letters.map sgn = _; rw [ss_cps], SqL.of (s1 _ _ f4), for_it (walk_zipS (x := tx L.letters) (y := .ref p1) ezl) (fun j σ H2 => Same H H2 ∧ (∀ i (hi : i < (waysAt L.rooms r).length), i < j → (waysAt L.rooms r)[i].2 ∉ bars → farV far (waysAt L.rooms r)[i].2 + 1 ≠ farV far r) ∧ ∃ z6 z7 z8, σ = [some (.ref p), some (.ref a), some (.ref b), some (tx y), some (nn r), some (.int ((farV far r : Int) - 1)), z6, z7, z8]) ⟨s1, fun i hi h => absurd h (Nat.not_lt_zero _), z6, z7, z8, rfl⟩ (fun j σ H2 _ h => ⟨by show L.letters.map sgn = _; rw [ss_cps], SqL.of (h.1 _ _ f4)⟩) ?_ ?_⟩
      · rintro j v σ H2 H3 hj ⟨s2, hno, z6, z7, z8, rfl⟩ ⟨t, u1, u2, rfl, hn, rfl, ex1, ex2⟩
        replace ex1 : (L.letters.map sgn)[j]? = some u1 := ex1
        replace ex2 : ws[j]? = some u2 := ex2
        have hj1 : j < L.letters.length := by rw [List.length_map] at hj; exact hj
        have hj2 : j < (waysAt L.rooms r).length := by omega
        rw [List.getElem?_map, List.getElem?_eq_getElem hj1] at ex1
        cases ex1
        obtain ⟨u, rfl, eu⟩ := k1 j u2 _ ex2 (List.getElem?_eq_getElem hj2)
        have s3 := s2.up (o := .tup [sgn L.letters[j], .ref u]) hn
        refine ⟨t, _, rfl, SqT.of upd_same, rfl, _, _, rfl, _, _, rfl, ⟨u, _, rfl, SqT.of (s3 _ _ eu), rfl, _, _, rfl, _, _, rfl, rfl, ?_⟩⟩
        refine ⟨rfl, ?_⟩
        generalize (upd H2 t (.tup [sgn L.letters[j], .ref u])) = H3 at *
        refine ⟨_, rfl, _, rfl, b, _, rfl, .inl (SqL.of (s3 _ _ eb)), rfl, flat_nn bars, _, rfl, ?_⟩
        rw [inV_nn]
        by_cases hb : (waysAt L.rooms r)[j].2 ∈ bars
        · rw [decide_eq_true hb]
          refine iteF (iteF ⟨s3, fun i hi h hn => ?_, _, _, _, rfl⟩)
          by_cases ei : i = j
          · subst ei; exact absurd hb hn
          · exact hno i hi (by omega) hn
        · rw [decide_eq_false hb]
          refine iteT ?_
          have hled : (waysAt L.rooms r)[j].2 ∈ ledOf L.rooms bars r := mem_led.mpr ⟨⟨_, List.getElem_mem hj2, rfl⟩, hb⟩
          obtain ⟨qq, hq1, hq2, hq3⟩ := I.up _ hmem _ hled
          have hin : (waysAt L.rooms r)[j].2 ∈ far.map (·.1) := List.mem_map.mpr ⟨qq, hq1, hq2⟩
          have hg2 := DGet.k (k := Sum.inl (((waysAt L.rooms r)[j].2 : Nat) : Int)) (s3 _ _ ea)
          rw [farD_in hin] at hg2
          refine ⟨_, rfl, _, rfl, a, _, rfl, hg2, _, rfl, rfl, _, rfl, ?_⟩
          by_cases he : farV far (waysAt L.rooms r)[j].2 + 1 = farV far r
          · rw [decide_eq_true (congrArg V.int (by omega))]
            refine iteT ⟨_, rfl, _, rfl, _, _, rfl, rfl, by rw [ss_len]; exact line_ok (by show y.length + 1 ≤ _; omega), _, rfl, ?_⟩
            have ey : V.str (SS y ++ ⟨#[L.letters[j]]⟩) = tx (y ++ [L.letters[j]]) := congrArg V.str (ss_app y [L.letters[j]])
            rw [ey]
            exact ⟨farV far (waysAt L.rooms r)[j].2, by omega, (waysAt L.rooms r)[j].2, y ++ [L.letters[j]], _, _, _, _, s3, hin, rfl, by rw [List.length_append]; show _ + 1 + _ ≤ _; omega, rfl⟩
          · rw [decide_eq_false (by intro z; exact he (by have := V.int.inj z; omega))]
            refine iteF ⟨s3, fun i hi h hn => ?_, _, _, _, rfl⟩
            by_cases ei : i = j
            · subst ei; exact he
            · exact hno i hi (by omega) hn
      · rintro σ H2 ⟨s2, hno, z6, z7, z8, rfl⟩
        exfalso
        rcases I.on _ hmem with h | ⟨t, ht, qq, hq1, hq2, hq3⟩
        · dsimp only at h; omega
        · obtain ⟨⟨wy, hwy, rfl⟩, hnb⟩ := mem_led.mp ht
          obtain ⟨i, hi, rfl⟩ := List.mem_iff_getElem.mp hwy
          have hi' : i < (waysAt L.rooms r).length := hi
          refine hno i hi' (by rw [List.length_map]; omega) hnb ?_
          have := I.val hq1
          rw [hq2] at this
          rw [this]
          exact hq3
    · rw [decide_eq_false (by omega)]
      exact iteF ⟨_, rfl, q y H1 s1⟩
/-! ### endless_way -/
abbrev sEndl : Stmt := top 38
abbrev nEndl : List Str := ["least", "far", "bars", "word", "seen", "sign", "text", "there", "at"]
theorem scEndl : FnScope nEndl ["least", "far", "bars"] (defScope sEndl) := ⟨rfl, rfl, rfl, by decide +kernel, rfl, by decide +kernel, by decide +kernel⟩
def spEndl (C : Addr) : Sp := fun vs H Q _ => ∃ (p a b B : Nat) (L : M) (far : List (Nat × Nat)) (bars : List Nat), vs = [.ref p, .ref a, .ref b] ∧ MAt C H p L ∧ MOk B L ∧ H a = some (.dK (farD far)) ∧ H b = some (.lst (bars.map nn)) ∧ Far L.rooms bars far ∧ 0 ∉ far.map (·.1) ∧
  ∀ t y z H', Same H H' → H' t = some (.tup [tx y, tx z]) → Q (.ref t) H'
theorem ok_endl (F : FnP K "endless_way" "endless_way" sEndl f fd) (T : Txt K mg C) (cLt : Met P w K mg base 1 C "letters" (spLets C)) : FnOk P w K mg base CX0 2 f fd ["least", "far", "bars"] (spEndl C) := by
  refine okD F scEndl (fun vs H Q E h => ?_) (fun cdv A outer s H vs Q E hr h => ?_)
  · obtain ⟨p, a, b, B, L, far, bars, rfl, _⟩ := h
    rfl
  · obtain ⟨p, a, b, B, L, far, bars, rfl, Mt, O, ea, eb, I, h0, q⟩ := h
    refine ⟨_, pss_cons (ps_set (i := 3) scEndl.nd rfl (.inl rfl) pe_str)
      (pss_cons (ps_set (i := 4) scEndl.nd rfl (.inl rfl) (pe_lst (pa_cons pe_int pa_nil)))
      (pss_one (ps_while PassesOwn.never (pt_val pe_bl)
        (pss_cons (ps_for PassesOwn.never rfl (pi_zipS (by rfl) T.zip (pa_cons (mt0 cLt hr (by decide) (pv 0)) (pa_cons (pe_ix ix_tup (pe_ix ix_list (pe_fld (pv 0) rfl) (pe_ix ix_list (pv 4) (pe_un un_neg pe_int) (fun _ _ => rfl)) (fun _ _ => rfl)) pe_int (fun _ _ => rfl)) pa_nil)))
            (pg_tup rfl (pgs_cons (pg_name (i := 5) scEndl.nd rfl (.inl rfl)) (pgs_cons (pg_tup rfl (pgs_cons (pg_name (i := 6) scEndl.nd rfl (.inl rfl)) (pgs_cons (pg_name (i := 7) scEndl.nd rfl (.inl rfl)) pgs_nil))) pgs_nil)))
          (pss_one (ps_if (L2.PW.pt (pw_and (pt_cmpR op_notIn_seq (pv 7) (pv 2) rfl) (pw_and1 (pt_cmp (pc_dnotin (hu_of hr) (pv 7) (pv 1))))))
            (pss_cons (ps_aug (i := 3) scEndl.nd rfl (.inl rfl) (pv 5) ip_addS) (pss_one ps_break)) pss_nil)))
        (pss_cons (ps_if (pt_cmpR op_in_seq (pv 7) (pv 4) rfl) (pss_cons (ps_set (i := 8) scEndl.nd rfl (.inl rfl) (pe_bm PySem.F.plainAttrs_list PySem.F.slot_list_index PySem.F.type_list_index mt_index (pv 4) (pa_cons (pv 7) pa_nil)))
          (pss_one (ps_ret (pe_tup (pa_cons (pe_slice sl_str (pv 3) po_none (po_some (pv 8))) (pa_cons (pe_slice sl_str (pv 3) (po_some (pv 8)) po_none) pa_nil)))))) pss_nil)
        (pss_one (ps_expr (pe_bm PySem.F.plainAttrs_list PySem.F.slot_list_append PySem.F.type_list_append mt_append (pv 4) (pa_cons (pv 7) pa_nil))))))))), ?_⟩
    obtain ⟨dx, l, eM, A0⟩ := id Mt
    refine ⟨line_ok (by show 1 ≤ 16000000; decide), fun D hD => ?_⟩
    refine ⟨fun m σ H' => ∃ (seen : List Nat) (s0 : Nat) (y : Tx) (z5 z6 z7 : Option V), Same H H' ∧ H' D = some (.lst ((seen ++ [s0]).map nn)) ∧ (seen ++ [s0]).Nodup ∧ (∀ t ∈ seen ++ [s0], t < L.rooms.length ∧ t ∉ far.map (·.1)) ∧ y.length ≤ seen.length ∧ m = L.rooms.length - seen.length ∧
      σ = [some (.ref p), some (.ref a), some (.ref b), some (tx y), some (.ref D), z5, z6, z7, none], ⟨_, [], 0, [], none, none, none, same_upd hD, upd_same, nodup_one _, fun t ht => by rw [List.mem_singleton.mp ht]; exact ⟨O.r.pos, h0⟩, Nat.le_refl _, rfl, rfl⟩, ?_⟩
    rintro m σ H1 ⟨seen, s0, y, z5, z6, z7, s1, eD, nd, hs, hy, rfl, rfl⟩
    refine ⟨true, rfl, iteT ⟨Less _ _, less_ok, ?_⟩⟩
    have hs0 := hs s0 (by simp)
    have hrl := hs0.1
    have hsl : (seen ++ [s0]).length ≤ L.rooms.length := nodup_le _ _ nd fun t ht => (hs t ht).1
    have hn200 := O.r.le
    obtain ⟨vs, t1, p1, ws, f1, _, f2, f3, f4, l1, k1⟩ := A0.room hrl
    have hwl := (O.r.room_at hrl).2.2.1
    have ezl : (L.letters.map sgn).length = ws.length := by rw [List.length_map]; omega
    have elast : atI ((seen ++ [s0]).map nn) (-1) = some (nn s0) := by rw [List.map_append]; exact atI_last _ _
    refine ⟨_, rfl, p, dx, _, rfl, s1 _ _ eM, f_none L l, p, L, rfl, Mt.mono s1, _, rfl, p, C, dx, _, _, rfl, s1 _ _ eM, T.cl, T.nM, f_made L l, _, rfl, 1, rfl, D, _, _, _, rfl, rfl, SqL.of eD, elast, l, vs, _, _, rfl, rfl, SqL.of (s1 _ _ f1), atI_nat f2, t1, _, 1, .ref p1, rfl, rfl, SqT.of (s1 _ _ f3), rfl, ?_⟩
    refine ⟨_, _, L.letters.map sgn, ws, rfl, by show L.letters.map sgn = _; rw [ss_cps], SqL.of (s1 _ _ f4), for_it (walk_zipS (x := tx L.letters) (y := .ref p1) ezl) (fun j σ H2 => Same H H2 ∧ H2 D = some (.lst ((seen ++ [s0]).map nn)) ∧ (∀ i (hi : i < (waysAt L.rooms s0).length), i < j → (waysAt L.rooms s0)[i].2 ∉ bars → (waysAt L.rooms s0)[i].2 ∈ far.map (·.1)) ∧ ∃ z5 z6 z7, σ = [some (.ref p), some (.ref a), some (.ref b), some (tx y), some (.ref D), z5, z6, z7, none]) ⟨s1, eD, fun i hi h => absurd h (Nat.not_lt_zero _), z5, z6, z7, rfl⟩ (fun j σ H2 _ h => ⟨by show L.letters.map sgn = _; rw [ss_cps], SqL.of (h.1 _ _ f4)⟩) ?_ ?_⟩
    · rintro j v σ H2 H3 hj ⟨s2, eD2, hno, z5, z6, z7, rfl⟩ ⟨t, u1, u2, rfl, hn, rfl, ex1, ex2⟩
      replace ex1 : (L.letters.map sgn)[j]? = some u1 := ex1
      replace ex2 : ws[j]? = some u2 := ex2
      have hj1 : j < L.letters.length := by rw [List.length_map] at hj; exact hj
      have hj2 : j < (waysAt L.rooms s0).length := by omega
      rw [List.getElem?_map, List.getElem?_eq_getElem hj1] at ex1
      cases ex1
      obtain ⟨u, rfl, eu⟩ := k1 j u2 _ ex2 (List.getElem?_eq_getElem hj2)
      have s3 := s2.up (o := .tup [sgn L.letters[j], .ref u]) hn
      have eD3 := (same_upd (o := .tup [sgn L.letters[j], .ref u]) hn) _ _ eD2
      refine ⟨t, _, rfl, SqT.of upd_same, rfl, _, _, rfl, _, _, rfl, ⟨u, _, rfl, SqT.of (s3 _ _ eu), rfl, _, _, rfl, _, _, rfl, rfl, ?_⟩⟩
      refine ⟨rfl, ?_⟩
      generalize (upd H2 t (.tup [sgn L.letters[j], .ref u])) = H3 at *
      refine ⟨_, rfl, _, rfl, b, _, rfl, .inl (SqL.of (s3 _ _ eb)), rfl, flat_nn bars, _, rfl, ?_⟩
      rw [inV_nn]
      by_cases hb : (waysAt L.rooms s0)[j].2 ∈ bars
      · rw [decide_eq_true hb]
        refine iteF (iteF ⟨s3, eD3, fun i hi h hn => ?_, _, _, _, rfl⟩)
        by_cases ei : i = j
        · subst ei; exact absurd hb hn
        · exact hno i hi (by omega) hn
      · rw [decide_eq_false hb]
        refine iteT ?_
        refine ⟨_, rfl, _, rfl, a, _, rfl, DGet.k (k := Sum.inl (((waysAt L.rooms s0)[j].2 : Nat) : Int)) (s3 _ _ ea), ?_⟩
        by_cases hin : (waysAt L.rooms s0)[j].2 ∈ far.map (·.1)
        · rw [farD_in hin]
          refine ⟨false, rfl, iteF ⟨s3, eD3, fun i hi h hn => ?_, _, _, _, rfl⟩⟩
          by_cases ei : i = j
          · subst ei; exact hin
          · exact hno i hi (by omega) hn
        · rw [farD_out hin]
          have hlt := ((O.r.room_at hrl).2.2.2 _ (List.getElem_mem hj2)).2.2
          generalize (waysAt L.rooms s0)[j].2 = tn at *
          rw [List.length_append] at hsl
          have hsl2 : seen.length + 1 ≤ L.rooms.length := hsl
          refine ⟨true, rfl, iteT ⟨_, rfl, _, rfl, _, _, rfl, rfl, by rw [ss_len]; exact line_ok (by show y.length + 1 ≤ _; omega), ?_⟩⟩
          have ey : V.str (SS y ++ ⟨#[L.letters[j]]⟩) = tx (y ++ [L.letters[j]]) := congrArg V.str (ss_app y [L.letters[j]])
          rw [ey]
          refine ⟨_, rfl, _, rfl, D, _, rfl, .inl (SqL.of eD3), rfl, flat_nn _, _, rfl, ?_⟩
          rw [inV_nn]
          by_cases hse : tn ∈ seen ++ [s0]
          · rw [decide_eq_true hse]
            refine iteT ?_
            have hix : (seen ++ [s0]).idxOf tn < (seen ++ [s0]).length := List.idxOf_lt_length_iff.mpr hse
            refine ⟨_, rfl, .inl ⟨rfl, _, SqL.of eD3⟩, _, rfl, D, _, _, (seen ++ [s0]).idxOf tn, nn tn, rfl, rfl, SqL.of eD3, rfl, flat_nn _, ?_, ?_, ?_, ?_⟩
            · have h5 := ix_get hse
              unfold ix at h5
              rw [List.getElem?_map, h5]
              rfl
            · show ((tn : Int) == (tn : Int)) = true
              exact beq_self_eq_true _
            · intro m z' hm hz
              rw [List.getElem?_map] at hz
              cases hz2 : (seen ++ [s0])[m]? with
              | none => rw [hz2] at hz; cases hz
              | some tm =>
                rw [hz2] at hz
                cases hz
                show ((tm : Int) == (tn : Int)) = false
                refine beq_eq_false_iff_ne.mpr fun z => ?_
                have : tm = tn := by omega
                subst this
                obtain ⟨hml, hme⟩ := List.getElem?_eq_some_iff.mp hz2
                have := List.Nodup.idxOf_getElem nd m hml
                rw [hme] at this
                omega
            · have zy : (SS (y ++ [L.letters[j]])).length ≤ sizeLine := by rw [ss_len, List.length_append]; exact line_ok (by show y.length + 1 ≤ _; omega)
              refine ⟨_, rfl, _, rfl, _, rfl, SS (y ++ [L.letters[j]]), rfl, zy, _, rfl, _, rfl, _, rfl, SS (y ++ [L.letters[j]]), rfl, zy, two_ok, fun t9 ht9 => ?_⟩
              rw [cut_to, cut_from]
              exact q t9 _ _ _ (s3.up ht9) upd_same
          · rw [decide_eq_false hse]
            refine iteF ?_
            refine ⟨_, rfl, .inl ⟨rfl, _, SqL.of eD3⟩, _, rfl, D, _, _, rfl, rfl, eD3, line_lt (by rw [List.length_map, List.length_append]; show seen.length + 1 ≤ _; omega), ?_⟩
            have nd2 : ((seen ++ [s0]) ++ [tn]).Nodup := by
              rw [List.nodup_append]
              exact ⟨nd, nodup_one _, fun x hx z hz => by rw [List.mem_singleton.mp hz]; rintro rfl; exact hse hx⟩
            have hs2 : ∀ t ∈ (seen ++ [s0]) ++ [tn], t < L.rooms.length ∧ t ∉ far.map (·.1) := fun t ht => by
              rcases List.mem_append.mp ht with h | h
              · exact hs t h
              · rw [List.mem_singleton.mp h]; exact ⟨hlt, hin⟩
            refine ⟨L.rooms.length - (seen ++ [s0]).length, by rw [List.length_append]; show _ - (_ + 1) < _; omega, seen ++ [s0], tn, y ++ [L.letters[j]], _, _, _, s3.put hD, ?_, nd2, hs2, by rw [List.length_append, List.length_append]; show _ + 1 ≤ _ + 1; omega, rfl, rfl⟩
            rw [upd_same, List.map_append (l₁ := seen ++ [s0])]
            rfl
    · rintro σ H2 ⟨s2, eD2, hno, z5, z6, z7, rfl⟩
      exfalso
      obtain ⟨t, ht, hnf⟩ := I.shut s0 hrl hs0.2
      obtain ⟨⟨wy, hwy, rfl⟩, hnb⟩ := mem_led.mp ht
      obtain ⟨i, hi, rfl⟩ := List.mem_iff_getElem.mp hwy
      exact hnf (hno i hi (by rw [List.length_map]; omega) hnb)
/-! ### seamless -/
abbrev sSless : Stmt := top 39
theorem scSless : FnScope ["machine", "least", "bars", "far"] ["machine"] (defScope sSless) := ⟨rfl, rfl, rfl, by decide +kernel, rfl, by decide +kernel, by decide +kernel⟩
def spSless (C : Addr) : Sp := fun vs H Q _ => ∃ (p B : Nat) (m : M), vs = [.ref p] ∧ MAt C H p m ∧ MOk B m ∧ B ≤ 100000 ∧
  ∀ t b r H', Same H H' → H' t = some (.tup (.str (if b = true then "within" else "never") :: r)) → (b = true ↔ Comes m) → Q (.ref t) H'
theorem ok_sless (F : FnP K "seamless" "seamless" sSless f fd) (T : Txt K mg C) (cL : Cal P w K mg base 7 "least_of" (spLeastOf C) []) (cRo : Met P w K mg base 5 C "row" (spRow C)) (cRm : Met P w K mg base 1 C "rooms" (spRooms C)) (cF : Cal P w K mg base 1 "far_of" spFar [])
    (cLo : Cal P w K mg base 2 "longest_way" (spLong C) []) (cE : Cal P w K mg base 2 "endless_way" (spEndl C) []) : FnOk P w K mg base CX0 8 f fd ["machine"] (spSless C) := by
  refine okD F scSless (fun vs H Q E h => ?_) (fun cdv A outer s H vs Q E hr h => ?_)
  · obtain ⟨p, B, m, rfl, _⟩ := h
    rfl
  · obtain ⟨p, B, m, rfl, Mt, O, hB, q⟩ := h
    refine ⟨_, pss_cons (ps_set (i := 1) scSless.nd rfl (.inl rfl) (ca cL hr (by decide) (by rfl) (pa_cons (pv 0) pa_nil)))
      (pss_cons (ps_set (i := 2) scSless.nd rfl (.inl rfl) (pe_lst (pa_cons pe_int pa_nil)))
      (pss_cons (ps_if (pt_cmpR op_ne (mt cRo hr (by decide) (pv 1) (pa_cons pe_str pa_nil)) pe_str (nomark _)) (pss_one (ps_set (i := 2) scSless.nd rfl (.inl rfl) (pe_lst pa_nil))) pss_nil)
      (pss_cons (ps_set (i := 3) scSless.nd rfl (.inl rfl) (ca cF hr (by decide) (by rfl) (pa_cons (mt0 cRm hr (by decide) (pv 1)) (pa_cons (pv 2) pa_nil))))
      (pss_cons (ps_if (pt_cmp (pc_din (hu_of hr) pe_int (pv 3))) (pss_one (ps_ret (pe_tup (pa_cons pe_str (pa_cons (ca cLo hr (by decide) (by rfl) (pa_cons (pv 1) (pa_cons (pv 3) (pa_cons (pv 2) pa_nil)))) pa_nil))))) pss_nil)
      (pss_one (ps_ret (pe_op op_catA (pe_tup (pa_cons pe_str pa_nil)) (ca cE hr (by decide) (by rfl) (pa_cons (pv 1) (pa_cons (pv 3) (pa_cons (pv 2) pa_nil))))))))))), ?_⟩
    refine ⟨_, rfl, p, B, m, rfl, Mt, O, hB, fun x L H1 s1 ML OL Ls => ?_⟩
    obtain ⟨dx, l, eM, A0⟩ := id ML
    refine ⟨line_ok (by show 1 ≤ 16000000; decide), fun b1 h1 => ?_⟩
    have s2 := same_upd (o := .lst [V.int 0]) h1
    refine ⟨_, rfl, x, dx, _, rfl, s2 _ _ eM, f_none L l, x, B + B, [], L, rfl, ML.mono s2, OL, by omega, Wd.nil, by simp, fun H3 s3 => ⟨rfl, _, rfl, ?_⟩⟩
    have rest : ∀ (bb : Addr) (bars : List Nat) (H4 : Hp), Same H1 H4 → H4 bb = some (.lst (bars.map nn)) → bars = (if L.row [] = [] then [0] else []) →
        tSeq (tAsg (tCall spFar [] E0 (tCons (tMeth C "rooms" (spRooms C) [] E0 (tVar 1) tNil) (tCons (tVar 2) tNil))) (gName 3))
          (tSeq (tIfS (tB (tDIn (tC (.int 0)) (tVar 3))) (tRet (tTup (tCons (tC (.str "within")) (tCons (tCall (spLong C) [] E0 (tCons (tVar 1) (tCons (tVar 3) (tCons (tVar 2) tNil)))) tNil)))) tNext)
            (tRet (tOp (rCatA K) (tTup (tCons (tC (.str "never")) tNil)) (tCall (spEndl C) [] E0 (tCons (tVar 1) (tCons (tVar 3) (tCons (tVar 2) tNil))))))) { nx := fun x H' => Q V.non H', rt := Q } [some (.ref p), some (.ref x), some (.ref bb), none] H4 := by
      intro bb bars H4 s4 e4 hbars
      refine ⟨_, rfl, x, dx, _, rfl, s4 _ _ eM, f_none L l, x, L, rfl, ML.mono s4, OL.r.le, fun D H5 s5 hD A5 => ?_⟩
      refine ⟨_, rfl, D, bb, B + B, L.letters, L.rooms, bars, rfl, A5, s5 _ _ e4, OL.l, OL.r, fun F6 far H6 s6 _ e6 Fr => ?_⟩
      have s46 := s5.trans s6
      have hci := comes_iff Ls OL hbars Fr
      refine ⟨_, rfl, F6, _, rfl, DGet.k (k := Sum.inl (0 : Int)) e6, ?_⟩
      by_cases h0 : 0 ∈ far.map (·.1)
      · have hh := farD_in h0
        rw [show ((0 : Nat) : Int) = 0 from rfl] at hh
        rw [hh]
        refine ⟨true, rfl, iteT ?_⟩
        refine ⟨_, rfl, _, rfl, _, rfl, x, F6, bb, B + B, L, far, bars, rfl, (ML.mono s4).mono s46, OL, e6, s46 _ _ e4, Fr.inv, h0, fun y H7 s7 => ⟨two_ok, fun t8 ht8 => ?_⟩⟩
        exact q t8 true _ _ (s1.trans (s4.trans (s46.trans (s7.up ht8)))) upd_same ⟨fun _ => hci.mp h0, fun _ => rfl⟩
      · have hh := farD_out h0
        rw [show ((0 : Nat) : Int) = 0 from rfl] at hh
        rw [hh]
        refine ⟨false, rfl, iteF ?_⟩
        refine ⟨line_ok (by show 1 ≤ 16000000; decide), fun t7 ht7 => ?_⟩
        have s7 := same_upd (o := .tup [.str "never"]) ht7
        refine ⟨_, rfl, _, rfl, _, rfl, x, F6, bb, B + B, L, far, bars, rfl, ((ML.mono s4).mono s46).mono s7, OL, s7 _ _ e6, s7 _ _ (s46 _ _ e4), Fr, h0, fun t8 y z H8 s8 e8 => ?_⟩
        refine ⟨t7, t8, _, _, rfl, rfl, SqT.of (s8 _ _ upd_same), SqT.of e8, line_ok (by show 1 + 2 ≤ 16000000; decide), fun z => (nomatch z), fun _ z => (nomatch z), fun _ _ t9 ht9 => ?_⟩
        exact q t9 false _ _ (s1.trans (s4.trans (s46.trans (s7.trans (s8.up ht9))))) upd_same ⟨fun z => (nomatch z), fun hc => absurd (hci.mpr hc) h0⟩
    by_cases e : L.row [] = []
    · rw [decide_eq_true (by rw [e]; rfl)]
      refine iteF ?_
      exact rest b1 [0] H3 (s2.trans s3) (s3 _ _ upd_same) (by rw [if_pos e])
    · rw [decide_eq_false (by intro z; exact e (tx_inj z))]
      refine iteT ⟨Nat.zero_le _, fun b2 h2 => ?_⟩
      exact rest b2 [] _ ((s2.trans s3).up h2) upd_same (by rw [if_neg e])
end
end K70
namespace K70
open PySem PySem.Spec PyProof.Rows L2
theorem joinL_nil : ∀ l : List Tx, TL.joinL [] l = l.flatten
  | [] => rfl
  | [p] => by simp [TL.joinL]
  | p :: q :: r => by
    show p ++ ([] ++ TL.joinL [] (q :: r)) = _
    rw [joinL_nil (q :: r)]
    simp
theorem join_txt (ys : List Tx) : Txt.join "" (ys.map SS) = SS ys.flatten := by
  have e := TL.tl_join (Str.ofString "") (ys.map SS)
  have hm : (ys.map SS).map TL.tl = ys := by
    rw [List.map_map]
    conv => rhs; rw [← List.map_id ys]
    refine List.map_congr_left fun a _ => ?_
    show (SS a).cps.toList = a
    rw [ss_cps]
  rw [hm] at e
  have e3 : TL.joinL (TL.tl (Str.ofString "")) ys = ys.flatten := joinL_nil ys
  rw [e3] at e
  refine TL.ext_tl ((congrArg TL.tl (TL.join_eq (Str.ofString "") (ys.map SS))).trans (e.trans ?_))
  show _ = (SS ys.flatten).cps.toList
  rw [ss_cps]
theorem flat_sgn (t : Tx) : (t.map fun c => [c]).flatten = t := by
  induction t with
  | nil => rfl
  | cons c t ih => rw [List.map_cons, List.flatten_cons, ih]; rfl
theorem map_sgn (t : Tx) : t.map sgn = ((t.map fun c => [c]).map SS).map V.str := by
  rw [List.map_map, List.map_map]
  rfl
theorem sum_sgn (t : Tx) : (((t.map fun c => [c]).map SS).map (·.length)).sum = t.length := by
  induction t with
  | nil => rfl
  | cons c t ih =>
    simp only [List.map_cons, List.sum_cons, List.length_cons] at ih ⊢
    rw [ih, ss_len]
    show 1 + _ = _
    omega
/-- the well -/
def WellAt (H : Hp) (W : Addr) : Prop := ∃ a b c : Int, H W = some (.lst [.int a, .int b, .int c])
theorem SameBut.refl {p : Addr} {H : Hp} : SameBut p H H := fun b x _ e => e
theorem WellAt.mono {H H' : Hp} {W : Addr} (s : Same H H') (h : WellAt H W) : WellAt H' W := by
  obtain ⟨a, b, c, e⟩ := h
  exact ⟨a, b, c, s _ _ e⟩
section
variable {P : Program} {w : World} {K : PySem.W.Frag} {mg : Str → Option Value} {base : Heap} {C f : Addr} {fd : FuncData}
/-! ### _law_well -/
abbrev sWell : Stmt := top 41
theorem scWell : FnScope ["_law_cell"] ["_law_cell"] (defScope sWell) := ⟨rfl, rfl, rfl, by decide +kernel, rfl, by decide +kernel, by decide +kernel⟩
def spWell : Sp := fun vs H Q _ => ∃ c : Int, vs = [.int c] ∧ ∀ D H', Same H H' → H D = none → WellAt H' D → Q (.ref D) H'
theorem ok_well (F : FnP K "_law_well" "_law_well" sWell f fd) (T : Txt K mg C) : FnOk P w K mg base CX0 1 f fd ["_law_cell"] spWell := by
  refine okD F scWell (fun vs H Q E h => ?_) (fun cdv A outer s H vs Q E hr h => ?_)
  · obtain ⟨c, rfl, _⟩ := h
    rfl
  · obtain ⟨c, rfl, q⟩ := h
    refine ⟨_, pss_one (ps_ret (pe_lst (pa_cons (pe_op op_mul (pv 0) (pe_callTy (T := "int") call_int1 (by rfl) T.int (by decide +kernel) (pa_cons (pe_cmpR op_ge (pv 0) (pe_op op_pow pe_int pe_int) (nomark _)) pa_nil))) (pa_cons (pv 0) (pa_cons pe_int pa_nil))))), ?_⟩
    refine ⟨_, rfl, _, rfl, _, _, rfl, rfl, ⟨by decide, by decide, by decide⟩, _, _, rfl, rfl, .inr ⟨_, rfl, _, _, rfl, rfl, .inr ?_, _, rfl, line_ok (by show 3 ≤ 16000000; decide), fun D hD => q D _ (same_upd hD) hD ⟨_, _, _, upd_same⟩⟩⟩
    split <;> decide
/-! ### _law_draw -/
abbrev sDraw : Stmt := top 42
abbrev nDraw : List Str := ["_law_well_here", "_law_most", "_law_found", "_law_low"]
theorem scDraw : FnScope nDraw ["_law_well_here", "_law_most"] (defScope sDraw) := ⟨rfl, rfl, rfl, by decide +kernel, rfl, by decide +kernel, by decide +kernel⟩
def spDraw : Sp := fun vs H Q _ => ∃ (W n : Nat), vs = [.ref W, nn n] ∧ WellAt H W ∧ 0 < n ∧ n ≤ 1000 ∧ ∀ (r : Nat) H', r < n → SameBut W H H' → WellAt H' W → Q (nn r) H'
theorem nn_mod (x : Int) {n : Nat} (h : 0 < n) : ∃ r : Nat, r < n ∧ V.int (x % (n : Int)) = nn r := by
  have h1 := Int.emod_nonneg x (by omega : (n : Int) ≠ 0)
  have h2 := Int.emod_lt_of_pos x (by omega : (0 : Int) < n)
  exact ⟨(x % (n : Int)).toNat, by omega, congrArg V.int (by omega)⟩
theorem ok_draw (F : FnP K "_law_draw" "_law_draw" sDraw f fd) (T : Txt K mg C) : FnOk P w K mg base CX0 1 f fd ["_law_well_here", "_law_most"] spDraw := by
  refine okD F scDraw (fun vs H Q E h => ?_) (fun cdv A outer s H vs Q E hr h => ?_)
  · obtain ⟨W, n, rfl, _⟩ := h
    rfl
  · obtain ⟨W, n, rfl, ⟨a, b, c, e⟩, hn, hn2, q⟩ := h
    refine ⟨_, pss_cons (ps_if (pt_cmpR op_gt (pe_ix ix_list (pv 0) pe_int (fun _ _ => rfl)) pe_int (nomark _))
        (pss_cons (ps_set (i := 2) scDraw.nd rfl (.inl rfl) (pe_op op_mod (pe_ix ix_list (pv 0) pe_int (fun _ _ => rfl)) (pv 1)))
        (pss_cons (ps_asg (pe_op op_fdiv (pe_ix ix_list (pv 0) pe_int (fun _ _ => rfl)) (pv 1)) (pg_sub (pv 0) pe_int set_list))
        (pss_one (ps_ret (pv 2))))) pss_nil)
      (pss_cons (ps_asg (pe_op op_add (pe_ix ix_list (pv 0) pe_int (fun _ _ => rfl)) pe_int) (pg_sub (pv 0) pe_int set_list))
      (pss_cons (ps_set (i := 3) scDraw.nd rfl (.inl rfl) (pe_op op_mod (pe_op op_mul (pe_op op_add (pe_op op_add (pe_op op_mod (pe_ix ix_list (pv 0) pe_int (fun _ _ => rfl)) pe_int) (pe_op op_mul pe_int (pe_ix ix_list (pv 0) pe_int (fun _ _ => rfl)))) pe_int) pe_int) pe_int))
      (pss_cons (ps_set (i := 3) scDraw.nd rfl (.inl rfl) (pe_op op_mod (pe_op op_mul (pv 3) (pe_op op_add (pe_op op_add (pe_op op_fdiv (pv 3) pe_int) pe_int) (pe_op op_mod (pe_op op_fdivW (pe_ix ix_list (pv 0) pe_int (fun _ _ => rfl)) pe_int) pe_int))) pe_int))
      (pss_one (ps_ret (pe_op op_mod (pe_op op_fdiv (pe_op op_mod (pe_op op_mul (pe_op op_add (pv 3) (pe_op op_mul pe_int (pe_ix ix_list (pv 0) pe_int (fun _ _ => rfl)))) (pe_op op_add (pe_op op_fdiv (pv 3) pe_int) pe_int)) pe_int) pe_int) (pv 1))))))), ?_⟩
    refine ⟨_, rfl, W, _, 0, .int a, rfl, rfl, SqL.of e, rfl, _, _, rfl, rfl, _, rfl, ?_⟩
    by_cases ha : 0 < a
    · rw [decide_eq_true ha]
      refine iteT ?_
      refine ⟨_, rfl, W, _, 0, .int a, rfl, rfl, SqL.of e, rfl, _, rfl, _, _, rfl, rfl, by show (0 : Int) < (n : Int); omega, ?_⟩
      refine ⟨_, rfl, W, _, 0, .int a, rfl, rfl, SqL.of e, rfl, _, rfl, _, _, rfl, rfl, ⟨by show (0 : Int) < (n : Int); omega, by show (n : Int) < 1073741824; omega⟩, ?_⟩
      refine ⟨_, rfl, W, _, 0, 0, rfl, rfl, e, rfl, ?_⟩
      obtain ⟨r, hr1, hr2⟩ := nn_mod a hn
      refine ⟨_, rfl, ?_⟩
      show Q (V.int (a % (n : Int))) _
      rw [hr2]
      exact q r _ hr1 SameBut.upd ⟨_, _, _, upd_same⟩
    · rw [decide_eq_false ha]
      refine iteF ?_
      refine ⟨_, rfl, W, _, 2, .int c, rfl, rfl, SqL.of e, rfl, _, _, rfl, rfl, _, rfl, W, _, 2, 2, rfl, rfl, e, rfl, ?_⟩
      have e2 : (upd H W (.lst ([V.int a, .int b, .int c].set 2 (.int (c + 1))))) W = some (.lst [.int a, .int b, .int (c + 1)]) := upd_same
      have sb : SameBut W H (upd H W (.lst ([V.int a, .int b, .int c].set 2 (.int (c + 1))))) := SameBut.upd
      revert e2 sb
      generalize (upd H W (.lst ([V.int a, .int b, .int c].set 2 (.int (c + 1))))) = H2
      intro e2 sb
      refine ⟨_, rfl, W, _, 1, .int b, rfl, rfl, SqL.of e2, rfl, _, _, rfl, rfl, by show (0 : Int) < 2147483647; decide, ?_⟩
      refine ⟨_, rfl, W, _, 2, .int (c + 1), rfl, rfl, SqL.of e2, rfl, _, _, rfl, rfl, .inl (by decide), _, _, rfl, rfl, _, _, rfl, rfl, _, _, rfl, rfl, .inr (by decide), _, _, rfl, rfl, by show (0 : Int) < 2147483647; decide, ?_⟩
      have g1 : ∀ x : Int, 0 ≤ x % 2147483647 ∧ x % 2147483647 < 2147483647 := fun x => ⟨Int.emod_nonneg x (by decide), Int.emod_lt_of_pos x (by decide)⟩
      have g2 : ∀ x : Int, 0 ≤ x % 2147483629 ∧ x % 2147483629 < 2147483629 := fun x => ⟨Int.emod_nonneg x (by decide), Int.emod_lt_of_pos x (by decide)⟩
      have l1 := g1 ((b % 2147483647 + 104729 * (c + 1) + 1) * 48271)
      refine ⟨_, rfl, _, rfl, _, _, rfl, rfl, ⟨by decide, by decide⟩, _, _, rfl, rfl, ?_⟩
      refine ⟨_, rfl, W, _, 1, .int b, rfl, rfl, SqL.of e2, rfl, _, _, rfl, rfl, wide_div (b := 32) (by decide) (by decide) (by decide) (by decide), _, _, rfl, rfl, by show (0 : Int) < 9973; decide, _, _, rfl, rfl, _, _, rfl, rfl, .inl ⟨by omega, by omega⟩, _, _, rfl, rfl, by show (0 : Int) < 2147483629; decide, ?_⟩
      have l2 := g2 ((b % 2147483647 + 104729 * (c + 1) + 1) * 48271 % 2147483647 * ((b % 2147483647 + 104729 * (c + 1) + 1) * 48271 % 2147483647 / 1009 + 69621 + b / 2147483647 % 9973))
      refine ⟨_, rfl, _, rfl, W, _, 2, .int (c + 1), rfl, rfl, SqL.of e2, rfl, _, _, rfl, rfl, .inl (by decide), _, _, rfl, rfl, ?_⟩
      refine ⟨_, rfl, _, _, rfl, rfl, ⟨by decide, by decide⟩, _, _, rfl, rfl, _, _, rfl, rfl, .inr ⟨?_, ?_⟩, _, _, rfl, rfl, by show (0 : Int) < 2147483399; decide, _, _, rfl, rfl, ⟨by decide, by decide⟩, _, rfl, _, _, rfl, rfl, by show (0 : Int) < (n : Int); omega, ?_⟩
      · omega
      · omega
      · obtain ⟨r, hr1, hr2⟩ := nn_mod (((b % 2147483647 + 104729 * (c + 1) + 1) * 48271 % 2147483647 * ((b % 2147483647 + 104729 * (c + 1) + 1) * 48271 % 2147483647 / 1009 + 69621 + b / 2147483647 % 9973) % 2147483629 + 7 * (c + 1)) * ((b % 2147483647 + 104729 * (c + 1) + 1) * 48271 % 2147483647 * ((b % 2147483647 + 104729 * (c + 1) + 1) * 48271 % 2147483647 / 1009 + 69621 + b / 2147483647 % 9973) % 2147483629 / 2003 + 40692) % 2147483399 / 11) hn
        have h3 := q r H2 hr1 sb ⟨_, _, _, e2⟩
        rw [← hr2] at h3
        exact h3
end
end K70
namespace K70
open PySem PySem.Spec PyProof.Rows L2
theorem WellAt.ne_new {H : Hp} {W S : Addr} (h : WellAt H W) (n : H S = none) : S ≠ W := by
  obtain ⟨a, b, c, e⟩ := h
  intro z
  rw [z, e] at n
  cases n
theorem WellAt.put {H : Hp} {W S : Addr} {o : HO} (h : WellAt H W) (n : S ≠ W) : WellAt (upd H S o) W := by
  obtain ⟨a, b, c, e⟩ := h
  exact ⟨a, b, c, by rw [upd_ne (Ne.symm n)]; exact e⟩
theorem SameBut.put {H H' : Hp} {W S : Addr} {o : HO} (s : SameBut W H H') (n : H S = none) : SameBut W H (L2.upd H' S o) := fun b x nb e => by
  rw [upd_ne (ne_of_none e n)]
  exact s b x nb e
theorem SameBut.up {H H' : Hp} {W S : Addr} {o : HO} (s : SameBut W H H') (n : H' S = none) : SameBut W H (L2.upd H' S o) := fun b x nb e => by
  have h := s b x nb e
  rw [upd_ne (ne_of_none h n)]
  exact h
theorem erase_perm : ∀ (l : Tx) (r : Nat) (h : r < l.length), (l[r] :: l.eraseIdx r).Perm l
  | a :: l, 0, _ => List.Perm.refl _
  | a :: l, r + 1, h => by
    have h' : r < l.length := by simpa using h
    show (l[r] :: a :: l.eraseIdx r).Perm (a :: l)
    exact (List.Perm.swap _ _ _).trans ((erase_perm l r h').cons a)
theorem erase_map (g : Nat → V) : ∀ (l : Tx) (r : Nat), (l.map g).eraseIdx r = (l.eraseIdx r).map g
  | [], _ => rfl
  | a :: l, 0 => rfl
  | a :: l, r + 1 => by
    show g a :: (l.map g).eraseIdx r = g a :: (l.eraseIdx r).map g
    rw [erase_map g l r]
theorem seqIx {n k : Nat} (h : k < n) : seqIndex? (k : Int) n = some k := by
  rw [PySem.StrLaws.seqIndex_nonneg (by omega) (by omega), Int.toNat_natCast]
section
variable {P : Program} {w : World} {K : PySem.W.Frag} {mg : Str → Option Value} {base : Heap} {C f : Addr} {fd : FuncData}
/-! ### _law_signs -/
abbrev sSigns : Stmt := top 43
abbrev nSigns : List Str := ["_law_well_here", "_law_many", "_law_some", "_law_nr"]
theorem scSigns : FnScope nSigns ["_law_well_here", "_law_many"] (defScope sSigns) := ⟨rfl, rfl, rfl, by decide +kernel, rfl, by decide +kernel, by decide +kernel⟩
def spSigns : Sp := fun vs H Q _ => ∃ (W k : Nat), vs = [.ref W, nn k] ∧ WellAt H W ∧ k ≤ 52 ∧ ∀ (t : Tx) H', t.length = k → t.Nodup → SgT t → SameBut W H H' → WellAt H' W → Q (tx t) H'
theorem ok_signs (F : FnP K "_law_signs" "_law_signs" sSigns f fd) (T : Txt K mg C) (cD : Cal P w K mg base 1 "_law_draw" spDraw []) : FnOk P w K mg base CX0 2 f fd ["_law_well_here", "_law_many"] spSigns := by
  refine okD F scSigns (fun vs H Q E h => ?_) (fun cdv A outer s H vs Q E hr h => ?_)
  · obtain ⟨W, k, rfl, _⟩ := h
    rfl
  · obtain ⟨W, k, rfl, Wl, hk, q⟩ := h
    refine ⟨_, pss_cons (ps_set (i := 2) scSigns.nd rfl (.inr rfl) (pe_callTy (T := "list") (call_list_text rfl) (by rfl) T.list (by decide +kernel) (pa_cons pe_str pa_nil)))
      (pss_one (ps_ret (pe_join pe_str (pe_lc (own := [("_law_nr", 3)]) (g := gName 3) (tt := tYes) (te := tBM K "list" rPopAt (tVar 2) (tCons (tCall spDraw [] E0 (tCons (tVar 0) (tCons (tCB (rLenS K) (tCons (tVar 2) tNil)) tNil))) tNil)) rfl scSigns.nd (pi_range1 (by rfl) T.range (pa_cons (pv 1) pa_nil)) (blkOk_by (N := nSigns) (sc := defScope sSigns) (by decide +kernel))
        (fun _ _ _ _ _ => pg_name (i := 3) scSigns.nd rfl (Or.inl rfl)) (fun _ _ _ _ _ => pts_nil)
        (fun _ _ _ _ _ => pe_bm PySem.F.plainAttrs_list PySem.F.slot_list_pop PySem.F.type_list_pop mt_popAt (pv 2) (pa_cons (ca cD hr (by decide) (by rfl) (pa_cons (pv 0) (pa_cons (pe_callB (r := rLenS K) call_len_seq (by rfl) T.len PySem.boot_len (pa_cons (pv 2) pa_nil)) pa_nil))) pa_nil)))))), ?_⟩
    refine ⟨SIG, rfl, line_ok (by show 52 ≤ 16000000; decide), fun S hS => ?_⟩
    rw [sig_ss, ss_cps]
    refine ⟨⟨_, rfl⟩, ?_⟩
    have nSW := Wl.ne_new hS
    refine ⟨_, rfl, _, rfl, by omega, by omega, fun D hD => ?_⟩
    have nDS : D ≠ S := fun z => by rw [z, upd_same] at hD; cases hD
    have hDH : H D = none := (same_upd hS).free hD
    have nDW := Wl.ne_new hDH
    refine lc_it walk_range (fun i H1 => ∃ got rem : Tx, SameBut W H H1 ∧ WellAt H1 W ∧ H1 S = some (.lst (rem.map sgn)) ∧ H1 D = some (.lst (got.map sgn)) ∧ got.length = i ∧ rem.length + i = 52 ∧ (got ++ rem).Nodup ∧ ∀ c ∈ got ++ rem, c ∈ sg) ?_ (fun _ _ _ _ => trivial) ?_ ?_
    · refine ⟨[], sg, ((same_upd hS).trans (same_upd hD)).but, (Wl.put nSW).put nDW, ?_, upd_same, rfl, rfl, by decide, fun c hc => hc⟩
      rw [upd_ne (Ne.symm nDS), upd_same]
    · rintro i x H1 H2 hi ⟨got, rem, s1, w1, eS, eD, hg, hrm, nd, hsg⟩ ⟨rfl, rfl⟩
      have hi' : i < k := by omega
      refine ⟨rfl, _, rfl, .inl ⟨rfl, _, SqL.of eS⟩, _, rfl, _, rfl, S, _, rfl, .inl (SqL.of eS), W, (rem.map sgn).length, rfl, w1, by rw [List.length_map]; omega, by rw [List.length_map]; omega, fun r H3 hr2 s3 w3 => ?_⟩
      rw [List.length_map] at hr2
      have eS3 := s3 _ _ nSW eS
      have eD3 := s3 _ _ nDW eD
      have er := List.getElem?_eq_getElem hr2
      refine ⟨S, _, (r : Int), r, sgn rem[r], rfl, rfl, eS3, by omega, by omega, seqIx (by rw [List.length_map]; exact hr2), by rw [List.getElem?_map, er]; rfl, ?_⟩
      refine ⟨_, by rw [upd_ne nDS]; exact eD3, line_lt (by rw [List.length_map]; omega), ?_⟩
      have hp : (got ++ [rem[r]] ++ rem.eraseIdx r).Perm (got ++ rem) := by
        rw [List.append_assoc]
        refine List.Perm.append_left got ?_
        exact erase_perm rem r hr2
      refine ⟨got ++ [rem[r]], rem.eraseIdx r, ((s1.trans s3).put hS).put hDH, (w3.put nSW).put nDW, ?_, ?_, by rw [List.length_append, hg]; rfl, ?_, hp.nodup_iff.mpr nd, fun c hc => hsg c (hp.mem_iff.mp hc)⟩
      · rw [upd_ne (Ne.symm nDS), upd_same, erase_map]
      · rw [upd_same, List.map_append]
        rfl
      · rw [List.length_eraseIdx_of_lt hr2]
        omega
    · rintro H1 ⟨got, rem, s1, w1, eS, eD, hg, hrm, nd, hsg⟩
      refine ⟨_, D, (got.map fun c => [c]).map SS, rfl, rfl, .inl (SqL.of (by rw [eD, map_sgn])), ?_, ?_⟩
      · rw [sum_sgn]
        show _ + _ * 0 ≤ _
        omega
      · rw [join_txt, flat_sgn]
        exact q got H1 (by omega) (List.nodup_append.mp nd).1 (fun c hc => hsg c (List.mem_append_left _ hc)) s1 w1
/-! ### _law_text -/
abbrev sLText : Stmt := top 44
abbrev nLText : List Str := ["_law_well_here", "_law_signs_here", "_law_most", "_law_nr"]
theorem scLText : FnScope nLText ["_law_well_here", "_law_signs_here", "_law_most"] (defScope sLText) := ⟨rfl, rfl, rfl, by decide +kernel, rfl, by decide +kernel, by decide +kernel⟩
def spLText : Sp := fun vs H Q _ => ∃ (W k : Nat) (ls : Tx), vs = [.ref W, tx ls, nn k] ∧ WellAt H W ∧ 0 < ls.length ∧ ls.length ≤ 52 ∧ k ≤ 100 ∧ ∀ (t : Tx) H', t.length ≤ k → Wd ls t → SameBut W H H' → WellAt H' W → Q (tx t) H'
theorem ok_ltext (F : FnP K "_law_text" "_law_text" sLText f fd) (T : Txt K mg C) (cD : Cal P w K mg base 1 "_law_draw" spDraw []) : FnOk P w K mg base CX0 2 f fd ["_law_well_here", "_law_signs_here", "_law_most"] spLText := by
  refine okD F scLText (fun vs H Q E h => ?_) (fun cdv A outer s H vs Q E hr h => ?_)
  · obtain ⟨W, k, ls, rfl, _⟩ := h
    rfl
  · obtain ⟨W, k, ls, rfl, Wl, hl0, hl, hk, q⟩ := h
    refine ⟨_, pss_one (ps_ret (pe_join pe_str (pe_lc (own := [("_law_nr", 3)]) (g := gName 3) (tt := tYes) rfl scLText.nd (pi_range1 (by rfl) T.range (pa_cons (ca cD hr (by decide) (by rfl) (pa_cons (pv 0) (pa_cons (pe_op op_add (pv 2) pe_int) pa_nil))) pa_nil)) (blkOk_by (N := nLText) (sc := defScope sLText) (by decide +kernel))
        (fun _ _ _ _ _ => pg_name (i := 3) scLText.nd rfl (Or.inl rfl)) (fun _ _ _ _ _ => pts_nil)
        (fun _ _ _ _ _ => pe_ix ix_str (pv 1) (ca cD hr (by decide) (by rfl) (pa_cons (pv 0) (pa_cons (pe_callB call_len_str (by rfl) T.len PySem.boot_len (pa_cons (pv 1) pa_nil)) pa_nil))) (fun _ _ => rfl))))), ?_⟩
    refine ⟨⟨_, rfl⟩, _, rfl, _, rfl, _, _, rfl, rfl, W, k + 1, rfl, Wl, by omega, by omega, fun n H0 hn s0 w0 => ?_⟩
    refine ⟨_, rfl, by omega, by omega, fun D hD => ?_⟩
    have nDW := w0.ne_new hD
    refine lc_it walk_range (fun i H1 => ∃ got : Tx, SameBut W H0 H1 ∧ WellAt H1 W ∧ H1 D = some (.lst (got.map sgn)) ∧ got.length = i ∧ Wd ls got) ⟨[], (same_upd hD).but, w0.put nDW, upd_same, rfl, Wd.nil⟩ (fun _ _ _ _ => trivial) ?_ ?_
    · rintro i x H1 H2 hi ⟨got, s1, w1, eD, hg, hw⟩ ⟨rfl, rfl⟩
      have hi' : i < n := by omega
      have zl : (SS ls).length ≤ sizeLine := by rw [ss_len]; exact line_ok (by omega)
      refine ⟨rfl, _, rfl, _, rfl, _, rfl, SS ls, rfl, zl, W, ls.length, by rw [ss_len]; rfl, w1, hl0, by omega, fun r H3 hr2 s3 w3 => ?_⟩
      have er := List.getElem?_eq_getElem hr2
      refine ⟨SS ls, _, ls[r], rfl, rfl, zl, by rw [ss_cps]; exact atI_nat er, ?_⟩
      refine ⟨_, s3 _ _ nDW eD, line_lt (by rw [List.length_map]; omega), got ++ [ls[r]], (s1.trans s3).put hD, w3.put nDW, ?_, by rw [List.length_append, hg]; rfl, hw.app (Wd.cons (List.getElem_mem hr2) Wd.nil)⟩
      rw [upd_same, List.map_append]
      rfl
    · rintro H1 ⟨got, s1, w1, eD, hg, hw⟩
      refine ⟨_, D, (got.map fun c => [c]).map SS, rfl, rfl, .inl (SqL.of (by rw [eD, map_sgn])), ?_, ?_⟩
      · rw [sum_sgn]
        show _ + _ * 0 ≤ _
        omega
      · rw [join_txt, flat_sgn]
        exact q got H1 (by omega) hw (s0.trans s1) w1
end
end K70
namespace K70
open PySem PySem.Spec PyProof.Rows L2
theorem WellAt.ne_tup {H : Hp} {W t : Addr} {xs : List V} (h : WellAt H W) (e : H t = some (.tup xs)) : t ≠ W := by
  obtain ⟨a, b, c, q⟩ := h
  exact ne_of e q (by intro z; cases z)
theorem WayAt.well {H H' : Hp} {W : Addr} {v : V} {y : Way} (s : SameBut W H H') (h : WellAt H W) (q : WayAt H v y) : WayAt H' v y := by
  obtain ⟨t, e, q⟩ := q
  exact ⟨t, e, s _ _ (h.ne_tup q) q⟩
/-- a told room that leads somewhere -/
def RoomN (H : Hp) (v : V) (r : Rm) : Prop := RoomAt H v r ∧ r.2 ≠ []
theorem RoomN.well {H H' : Hp} {W : Addr} {v : V} {r : Rm} (s : SameBut W H H') (h : WellAt H W) (q : RoomN H v r) : RoomN H' v r := by
  obtain ⟨⟨t, p, e, q, ws, e2, l, k⟩, hn⟩ := q
  have np : p ≠ W := by
    intro z
    obtain ⟨a, b, c, e3⟩ := h
    rw [z, e3] at e2
    cases e2
    have h0 : 0 < r.2.length := List.length_pos_iff.mpr hn
    obtain ⟨u, eu, _⟩ := k 0 (.int a) r.2[0] rfl (List.getElem?_eq_getElem h0)
    cases eu
  exact ⟨⟨t, p, e, s _ _ (h.ne_tup q) q, ws, s _ _ np e2, l, fun i v y h1 h2 => (k i v y h1 h2).well s h⟩, hn⟩
theorem RoomsAt.well {H H' : Hp} {W l : Addr} {rs : List Rm} (s : SameBut W H H') (h : WellAt H W) (h0 : rs ≠ []) (hn : ∀ r ∈ rs, r.2 ≠ []) (q : RoomsAt H l rs) : RoomsAt H' l rs := by
  obtain ⟨vs, e, hl, k⟩ := q
  have np : l ≠ W := by
    intro z
    obtain ⟨a, b, c, e3⟩ := h
    rw [z, e3] at e
    cases e
    have h0 : 0 < rs.length := List.length_pos_iff.mpr h0
    obtain ⟨u, _, eu, _⟩ := k 0 (.int a) rs[0] rfl (List.getElem?_eq_getElem h0)
    cases eu
  exact ⟨vs, s _ _ np e, hl, fun i v r h1 h2 => (RoomN.well s h ⟨k i v r h1 h2, hn r (List.mem_of_getElem? h2)⟩).1⟩
theorem ROk.lead {ls : Tx} {B : Nat} {rs : List Rm} (R : ROk ls B rs) (L : LOk ls) : rs ≠ [] ∧ ∀ r ∈ rs, r.2 ≠ [] := by
  refine ⟨fun z => (by have := R.pos; rw [z] at this; cases this), fun r hr z => ?_⟩
  have h1 := (R.room r hr).2.2.1
  have h2 := L.pos
  rw [z] at h1
  simp at h1
  omega
theorem MAt.well {C p W : Addr} {H H' : Hp} {m : M} {B : Nat} (s : SameBut W H H') (h : WellAt H W) (O : MOk B m) (q : MAt C H p m) : MAt C H' p m := by
  obtain ⟨dx, l, e, A⟩ := q
  have np : p ≠ W := by
    obtain ⟨a, b, c, e3⟩ := h
    exact ne_of e e3 (by intro z; cases z)
  exact ⟨dx, l, s _ _ np e, A.well s h (O.r.lead O.l).1 (O.r.lead O.l).2⟩
def MonoW {α : Type} (R : Hp → V → α → Prop) (W : Addr) : Prop := ∀ (H H' : Hp) (v : V) (x : α), SameBut W H H' → WellAt H W → R H v x → R H' v x
structure BldW {α : Type} (R : Hp → V → α → Prop) (W : Addr) (H0 : Hp) (D : Addr) (H : Hp) (xs : List α) : Prop where
  same : SameBut W H0 H
  well : WellAt H W
  ex : ∃ vs, H D = some (.lst vs) ∧ vs.length = xs.length ∧ ∀ (i : Nat) (v : V) (x : α), vs[i]? = some v → xs[i]? = some x → R (Off D H) v x
theorem SameBut.off {W D : Addr} {H H' : Hp} (s : SameBut W H H') : SameBut W (Off D H) (Off D H') := fun b x n e => by
  by_cases z : b = D
  · unfold Off at e; rw [if_pos z] at e; cases e
  · rw [off_at z] at e ⊢; exact s _ _ n e
theorem WellAt.off {W D : Addr} {H : Hp} (h : WellAt H W) (n : D ≠ W) : WellAt (Off D H) W := by
  obtain ⟨a, b, c, e⟩ := h
  exact ⟨a, b, c, by rw [off_at (Ne.symm n)]; exact e⟩
theorem BldW.start {α : Type} {R : Hp → V → α → Prop} {W D : Addr} {H0 : Hp} (w : WellAt H0 W) (h : H0 D = none) : BldW R W H0 D (upd H0 D (.lst [])) [] := ⟨(same_upd h).but, w.put (w.ne_new h), [], upd_same, rfl, fun i v x e => by simp at e⟩
theorem BldW.snoc {α : Type} {R : Hp → V → α → Prop} {W D : Addr} (hR : MonoW R W) {H0 H H2 : Hp} {xs : List α} {v : V} {x : α} (b : BldW R W H0 D H xs) (hD : H0 D = none) (n : D ≠ W) (s : SameBut W H H2) (w2 : WellAt H2 W) (h : R (Off D H2) v x) :
    ∃ acc, H2 D = some (.lst acc) ∧ acc.length = xs.length ∧ BldW R W H0 D (upd H2 D (.lst (acc ++ [v]))) (xs ++ [x]) := by
  obtain ⟨vs, e, l, q⟩ := b.ex
  refine ⟨vs, s _ _ n e, l, (b.same.trans s).put hD, w2.put n, _, upd_same, by simp [l], ?_⟩
  rw [off_upd]
  intro i u y h1 h2
  by_cases hi : i < vs.length
  · rw [List.getElem?_append_left hi] at h1
    rw [List.getElem?_append_left (by omega)] at h2
    exact hR _ _ _ _ s.off (b.well.off n) (q i u y h1 h2)
  · have hle := (List.getElem?_eq_some_iff.mp h1).1
    rw [List.length_append] at hle
    have hie : i = vs.length := by simp at hle; omega
    subst hie
    rw [List.getElem?_append_right (Nat.le_refl _)] at h1
    rw [List.getElem?_append_right (by omega), l] at h2
    simp at h1 h2
    rw [← h1, ← h2]
    exact h
theorem BldW.keep {α : Type} {R : Hp → V → α → Prop} {W D : Addr} (hR : MonoW R W) {H0 H H2 : Hp} {xs : List α} (b : BldW R W H0 D H xs) (n : D ≠ W) (s : SameBut W H H2) (w2 : WellAt H2 W) : BldW R W H0 D H2 xs := by
  obtain ⟨vs, e, l, q⟩ := b.ex
  exact ⟨b.same.trans s, w2, vs, s _ _ n e, l, fun i v x h1 h2 => hR _ _ _ _ s.off (b.well.off n) (q i v x h1 h2)⟩
theorem BldW.done {α : Type} {R : Hp → V → α → Prop} {W D : Addr} (hR : Mono R) {H0 H : Hp} {xs : List α} (b : BldW R W H0 D H xs) : LAt R H D xs := by
  obtain ⟨vs, e, l, q⟩ := b.ex
  exact ⟨vs, e, l, fun i v x h1 h2 => hR _ _ _ _ off_same (q i v x h1 h2)⟩
theorem monoW_way {W : Addr} : MonoW WayAt W := fun _ _ _ _ s h q => q.well s h
theorem monoW_room {W : Addr} : MonoW RoomN W := fun _ _ _ _ s h q => q.well s h
/-- a list of rooms, none of them told by it -/
def RoomsIn (H : Hp) (R : Addr) (rs : List Rm) : Prop := ∃ vs, H R = some (.lst vs) ∧ vs.length = rs.length ∧ ∀ (i : Nat) (v : V) (r : Rm), vs[i]? = some v → rs[i]? = some r → RoomN (Off R H) v r
theorem pick_many {r : Nat} (hr : r < 5) : ∀ (b1 b2 b3 : Bool), ∃ e : Nat, 1 ≤ e ∧ e ≤ 12 ∧ atI [V.int (1 + (r : Int)), .int 2, .int 3, .int 12] ((if b1 = true then 1 else 0) + (if b2 = true then 1 else 0) + (if b3 = true then 1 else 0)) = some (nn e) := by
  have h0 : some (V.int (1 + (r : Int))) = some (nn (1 + r)) := congrArg some (congrArg V.int (by omega))
  intro b1 b2 b3
  cases b1 <;> cases b2 <;> cases b3
  · exact ⟨1 + r, by omega, by omega, h0⟩
  · exact ⟨2, by omega, by omega, rfl⟩
  · exact ⟨2, by omega, by omega, rfl⟩
  · exact ⟨3, by omega, by omega, rfl⟩
  · exact ⟨2, by omega, by omega, rfl⟩
  · exact ⟨3, by omega, by omega, rfl⟩
  · exact ⟨3, by omega, by omega, rfl⟩
  · exact ⟨12, by omega, by omega, rfl⟩
theorem pick_letters (x : Int) (h0 : 0 ≤ x) (h1 : x < 3) : ∀ b : Bool, ∃ e : Nat, 2 ≤ e ∧ e ≤ 16 ∧ atI [V.int 2, .int 3, .int 2, .int 16] (if (3 : Int) * (if b = true then 1 else 0) > x then 3 * (if b = true then 1 else 0) else x) = some (nn e) := by
  intro b
  have hx : x = 0 ∨ x = 1 ∨ x = 2 := by omega
  rcases hx with rfl | rfl | rfl <;> cases b
  · exact ⟨2, by omega, by omega, rfl⟩
  · exact ⟨16, by omega, by omega, rfl⟩
  · exact ⟨3, by omega, by omega, rfl⟩
  · exact ⟨16, by omega, by omega, rfl⟩
  · exact ⟨2, by omega, by omega, rfl⟩
  · exact ⟨16, by omega, by omega, rfl⟩
theorem pick_first (y : Tx) (x : Int) (h0 : 0 ≤ x) (h1 : x < 3) : ∃ z : Tx, (z = y ∨ z = []) ∧ atI [tx y, .str "", .str ""] x = some (tx z) := by
  have hx : x = 0 ∨ x = 1 ∨ x = 2 := by omega
  rcases hx with rfl | rfl | rfl
  · exact ⟨y, .inl rfl, rfl⟩
  · exact ⟨[], .inr rfl, rfl⟩
  · exact ⟨[], .inr rfl, rfl⟩
section
variable {P : Program} {w : World} {K : PySem.W.Frag} {mg : Str → Option Value} {base : Heap} {C f : Addr} {fd : FuncData}
abbrev sMade : Stmt := top 45
abbrev nMade : List Str := ["_law_well_here", "_law_way", "_law_many", "_law_letters", "_law_told", "_law_most", "_law_rooms", "_law_nr", "_law_end", "_law_sign"]
theorem scMade : FnScope nMade ["_law_well_here"] (defScope sMade) := ⟨rfl, rfl, rfl, by decide +kernel, rfl, by decide +kernel, by decide +kernel⟩
def spMade : Sp := fun vs H Q _ => ∃ (W : Nat), vs = [.ref W] ∧ WellAt H W ∧ ∀ t R m H', SameBut W H H' → WellAt H' W → H' t = some (.tup [tx m.letters, .ref R, tx m.first]) → H R = none → RoomsIn H' R m.rooms → MOk 2 m → m.rooms.length ≤ 12 → Q (.ref t) H'
theorem ok_made (F : FnP K "_law_made" "_law_made" sMade f fd) (T : Txt K mg C) (cD : Cal P w K mg base 1 "_law_draw" spDraw []) (cS : Cal P w K mg base 2 "_law_signs" spSigns []) (cT : Cal P w K mg base 2 "_law_text" spLText []) : FnOk P w K mg base CX0 3 f fd ["_law_well_here"] spMade := by
  refine okD F scMade (fun vs H Q E h => ?_) (fun cdv A outer s H vs Q E hr h => ?_)
  · obtain ⟨W, rfl, _⟩ := h
    rfl
  · obtain ⟨W, rfl, Wl, q⟩ := h
    refine ⟨_, pss_cons (ps_set (i := 1) scMade.nd rfl (.inl rfl) (ca cD hr (by decide) (by rfl) (pa_cons (pv 0) (pa_cons pe_int pa_nil))))
      (pss_cons (ps_set (i := 2) scMade.nd rfl (.inr rfl) (pe_ix ix_list (pe_lst (pa_cons (pe_op op_add pe_int (ca cD hr (by decide) (by rfl) (pa_cons (pv 0) (pa_cons pe_int pa_nil)))) (pa_cons pe_int (pa_cons pe_int (pa_cons pe_int pa_nil)))))
        (pe_op op_add (pe_op op_add (pe_callTy (T := "int") call_int1 (by rfl) T.int (by decide +kernel) (pa_cons (pe_cmpR op_gt (pv 1) pe_int (nomark _)) pa_nil)) (pe_callTy (T := "int") call_int1 (by rfl) T.int (by decide +kernel) (pa_cons (pe_cmpR op_gt (pv 1) pe_int (nomark _)) pa_nil)))
          (pe_callTy (T := "int") call_int1 (by rfl) T.int (by decide +kernel) (pa_cons (pe_cmpR op_eq (pv 1) pe_int (nomark _)) pa_nil))) (fun _ _ => rfl)))
      (pss_cons (ps_set (i := 3) scMade.nd rfl (.inl rfl) (ca cS hr (by decide) (by rfl) (pa_cons (pv 0) (pa_cons (pe_ix ix_list (pe_lst (pa_cons pe_int (pa_cons pe_int (pa_cons pe_int (pa_cons pe_int pa_nil)))))
        (pe_callB (call_max2 rfl) (by rfl) T.max (by decide +kernel) (pa_cons (pe_op op_mod (pe_op op_mod (pv 1) pe_int) pe_int) (pa_cons (pe_op op_mul pe_int (pe_callTy (T := "int") call_int1 (by rfl) T.int (by decide +kernel) (pa_cons (pe_cmpR op_eq (pv 1) pe_int (nomark _)) pa_nil))) pa_nil))) (fun _ _ => rfl)) pa_nil))))
      (pss_cons (ps_set (i := 4) scMade.nd rfl (.inr rfl) (ca cS hr (by decide) (by rfl) (pa_cons (pv 0) (pa_cons (pe_op op_add pe_int (ca cD hr (by decide) (by rfl) (pa_cons (pv 0) (pa_cons pe_int pa_nil)))) pa_nil))))
      (pss_cons (ps_set (i := 5) scMade.nd rfl (.inr rfl) (pe_op op_add pe_int (ca cD hr (by decide) (by rfl) (pa_cons (pv 0) (pa_cons pe_int pa_nil)))))
      (pss_cons (ps_set (i := 6) scMade.nd rfl (.inl rfl) (pe_lst pa_nil))
      (pss_cons (ps_for PassesOwn.never rfl (pi_range1 (by rfl) T.range (pa_cons (pv 2) pa_nil)) (pg_name (i := 7) scMade.nd rfl (.inl rfl))
        (pss_cons (ps_set (i := 8) scMade.nd rfl (.inl rfl) (ca cT hr (by decide) (by rfl) (pa_cons (pv 0) (pa_cons (pv 4) (pa_cons (pv 5) pa_nil)))))
        (pss_one (ps_expr (pe_bm PySem.F.plainAttrs_list PySem.F.slot_list_append PySem.F.type_list_append mt_append (pv 6) (pa_cons (pe_tup (pa_cons (pv 8)
          (pa_cons (pe_lc (own := [("_law_sign", 9)]) (g := gName 9) (tt := tYes) rfl scMade.nd (pi_str (pv 3)) (blkOk_by (N := nMade) (sc := defScope sMade) (by decide +kernel))
            (fun _ _ _ _ _ => pg_name (i := 9) scMade.nd rfl (Or.inl rfl)) (fun _ _ _ _ _ => pts_nil)
            (fun _ _ _ _ _ => pe_tup (pa_cons (ca cT hr (by decide) (by rfl) (pa_cons (pv 0) (pa_cons (pv 4) (pa_cons (pv 5) pa_nil)))) (pa_cons (ca cD hr (by decide) (by rfl) (pa_cons (pv 0) (pa_cons (pv 2) pa_nil))) pa_nil)))) pa_nil))) pa_nil))))))
      (pss_one (ps_ret (pe_tup (pa_cons (pv 3) (pa_cons (pv 6) (pa_cons (pe_ix ix_list (pe_lst (pa_cons (ca cT hr (by decide) (by rfl) (pa_cons (pv 0) (pa_cons (pv 4) (pa_cons (pv 5) pa_nil)))) (pa_cons pe_str (pa_cons pe_str pa_nil)))) (pe_op op_mod (pv 1) pe_int) (fun _ _ => rfl)) pa_nil)))))))))))), ?_⟩
    refine ⟨_, rfl, W, 12, rfl, Wl, by decide, by decide, fun way H1 hway s1 w1 => ?_⟩
    refine ⟨_, rfl, W, 5, rfl, w1, by decide, by decide, fun r H2 hr2 s2 w2 => ?_⟩
    refine ⟨_, _, rfl, rfl, line_ok (by show 4 ≤ 16000000; decide), fun a3 h3 => ?_⟩
    refine ⟨_, rfl, _, _, rfl, rfl, .inr ⟨_, rfl, _, rfl, _, _, rfl, rfl, .inr ⟨_, rfl, _, _, rfl, rfl, _, rfl, rfl, .inr ⟨_, rfl, _, _, rfl, rfl, ?_⟩⟩⟩⟩
    obtain ⟨many, hm1, hm2, em⟩ := pick_many hr2 (decide ((6 : Int) < (way : Int))) (decide ((8 : Int) < (way : Int))) (decide (V.int (way : Int) = V.int 11))
    refine ⟨a3, _, _, _, rfl, rfl, SqL.of upd_same, em, ?_⟩
    have s3 := (s1.trans s2).up (o := .lst [V.int (1 + (r : Int)), .int 2, .int 3, .int 12]) h3
    have w3 := w2.put (o := .lst [V.int (1 + (r : Int)), .int 2, .int 3, .int 12]) (w2.ne_new h3)
    generalize (upd H2 a3 (.lst [V.int (1 + (r : Int)), .int 2, .int 3, .int 12])) = H3 at *
    refine ⟨_, rfl, line_ok (by show 4 ≤ 16000000; decide), fun a4 h4 => ?_⟩
    refine ⟨_, rfl, _, _, rfl, rfl, by show (0 : Int) < 4; decide, _, _, rfl, rfl, by show (0 : Int) < 3; decide, _, rfl, rfl, .inr ⟨_, rfl, _, _, rfl, rfl, .inl (by decide), _, _, rfl, ?_⟩⟩
    obtain ⟨nl, hn1, hn2, en⟩ := pick_letters ((way : Int) % 4 % 3) (Int.emod_nonneg _ (by decide)) (Int.emod_lt_of_pos _ (by decide)) (decide (V.int (way : Int) = V.int 11))
    refine ⟨a4, _, _, _, rfl, rfl, SqL.of upd_same, en, ?_⟩
    have s4 := s3.up (o := .lst [V.int 2, .int 3, .int 2, .int 16]) h4
    have w4 := w3.put (o := .lst [V.int 2, .int 3, .int 2, .int 16]) (w3.ne_new h4)
    generalize (upd H3 a4 (.lst [V.int 2, .int 3, .int 2, .int 16])) = H4 at *
    refine ⟨W, nl, rfl, w4, by omega, fun ls H5 hll hnd hsg s5 w5 => ?_⟩
    have L : LOk ls := ⟨by omega, by omega, hnd, hsg⟩
    refine ⟨_, rfl, _, rfl, W, 3, rfl, w5, by decide, by decide, fun r6 H6 hr6 s6 w6 => ?_⟩
    refine ⟨_, _, rfl, rfl, W, 1 + r6, congrArg (fun u => [V.ref W, u]) (congrArg V.int (by omega)), w6, by omega, fun tl H7 htl _ htg s7 w7 => ?_⟩
    refine ⟨_, rfl, W, 2, rfl, w7, by decide, by decide, fun r8 H8 hr8 s8 w8 => ?_⟩
    refine ⟨_, _, rfl, rfl, ?_⟩
    obtain ⟨mo, hmo, emo⟩ : ∃ mo : Nat, mo ≤ 2 ∧ V.int (1 + (r8 : Int)) = nn mo := ⟨1 + r8, by omega, congrArg V.int (by omega)⟩
    refine ⟨Nat.zero_le _, fun R hR => ?_⟩
    have s08 := (s4.trans (s5.trans (s6.trans (s7.trans s8))))
    have nRW := w8.ne_new hR
    have hHR : H R = none := by
      cases e : H R with
      | none => rfl
      | some o => rw [s08 _ _ nRW e] at hR; cases hR
    have tle : 0 < tl.length ∧ tl.length ≤ 52 := ⟨by omega, by omega⟩
    have wsg : ∀ y : Tx, Wd tl y → SgT y := fun y hy c hc => htg c (hy c hc)
    refine ⟨_, rfl, _, rfl, by omega, by omega, for_it walk_range (fun i σ H' => ∃ rooms : List Rm, BldW RoomN W H8 R H' rooms ∧ rooms.length = i ∧ (∀ rm ∈ rooms, SgT rm.1 ∧ rm.1.length ≤ 2 ∧ rm.2.length = ls.length ∧ ∀ y ∈ rm.2, SgT y.1 ∧ y.1.length ≤ 2 ∧ y.2 < many) ∧
      ∃ z7 z8, σ = [some (.ref W), some (nn way), some (nn many), some (tx ls), some (tx tl), some (V.int (1 + (r8 : Int))), some (.ref R), z7, z8, none]) ⟨[], BldW.start w8 hR, rfl, fun rm h => (nomatch h), none, none, rfl⟩ (fun _ _ _ _ _ => trivial) ?_ ?_⟩
    · rintro i x σ H9 H10 hi ⟨rooms, b9, hlr, hok, z7, z8, rfl⟩ ⟨rfl, rfl⟩
      have hi' : i < many := by omega
      refine ⟨_, rfl, _, rfl, _, rfl, W, mo, tl, congrArg (fun u => [V.ref W, tx tl, u]) emo, b9.well, tle.1, tle.2, by omega, fun en H11 hen hew s11 w11 => ?_⟩
      have b11 := b9.keep monoW_room nRW s11 w11
      obtain ⟨vs11, eR11, lR11, _⟩ := b11.ex
      refine ⟨_, rfl, .inl ⟨rfl, _, SqL.of eR11⟩, ?_⟩
      refine ⟨_, rfl, _, rfl, SS ls, rfl, fun D hD => ?_⟩
      have nDW := w11.ne_new hD
      have nDR : D ≠ R := fun z => by rw [z, eR11] at hD; cases hD
      refine lc_it walk_str (fun j H12 => ∃ ways : List Way, BldW WayAt W H11 D H12 ways ∧ ways.length = j ∧ ∀ y ∈ ways, SgT y.1 ∧ y.1.length ≤ 2 ∧ y.2 < many) ⟨[], BldW.start w11 hD, rfl, fun y h => (nomatch h)⟩ (fun _ _ _ _ => trivial) ?_ ?_
      · rintro j x H12 H13 hj ⟨ways, b12, hlw, hwy⟩ ⟨rfl, c, ec, rfl⟩
        have hj' : j < ls.length := by simpa using hj
        refine ⟨rfl, _, rfl, _, rfl, _, rfl, W, mo, tl, congrArg (fun u => [V.ref W, tx tl, u]) emo, b12.well, tle.1, tle.2, by omega, fun y H14 hy hyw s14 w14 => ?_⟩
        refine ⟨_, rfl, _, rfl, W, many, rfl, w14, by omega, by omega, fun d H15 hd s15 w15 => ⟨two_ok, fun t16 h16 => ?_⟩⟩
        have s16 := (s14.trans s15).up (o := .tup [tx y, nn d]) h16
        have w16 := w15.put (o := .tup [tx y, nn d]) (w15.ne_new h16)
        obtain ⟨vs12, eD12, _, _⟩ := b12.ex
        have n16 : t16 ≠ D := fun z => by
          have := (s14.trans s15) _ _ nDW eD12
          rw [← z, h16] at this
          cases this
        obtain ⟨acc, ea, la, b17⟩ := b12.snoc monoW_way hD nDW s16 w16 (v := .ref t16) (x := (y, d)) ⟨t16, rfl, by rw [off_at n16, upd_same]⟩
        refine ⟨acc, ea, line_lt (by rw [la]; omega), ways ++ [(y, d)], b17, by rw [List.length_append, hlw]; rfl, fun v hv => ?_⟩
        rcases List.mem_append.mp hv with h | h
        · exact hwy v h
        · rw [List.mem_singleton.mp h]
          exact ⟨wsg y hyw, by show y.length ≤ 2; omega, hd⟩
      · rintro H12 ⟨ways, b12, hlw, hwy⟩
        have hlw2 : ways.length = ls.length := by rw [hlw]; simp
        have A12 := b12.done mono_way
        refine ⟨two_ok, fun t13 h13 => ?_⟩
        have eR12 := b12.same _ _ nRW eR11
        have hm := room_mk (r := (en, ways)) eR12 nDR A12 h13
        have s13 := b12.same.up (o := .tup [tx en, .ref D]) h13
        have w13 := b12.well.put (o := .tup [tx en, .ref D]) (b12.well.ne_new h13)
        have hne : ways ≠ [] := fun z => by rw [z] at hlw2; simp at hlw2; omega
        obtain ⟨acc, ea, la, b14⟩ := b11.snoc monoW_room hR nRW s13 w13 (v := .ref t13) (x := (en, ways)) ⟨hm, hne⟩
        refine ⟨R, acc, _, rfl, rfl, ea, line_lt (by rw [la]; omega), rooms ++ [(en, ways)], b14, by rw [List.length_append, hlr]; rfl, fun rm hrm => ?_, _, _, rfl⟩
        rcases List.mem_append.mp hrm with h | h
        · exact hok rm h
        · rw [List.mem_singleton.mp h]
          exact ⟨wsg en hew, by show en.length ≤ 2; omega, hlw2, hwy⟩
    · rintro σ H9 ⟨rooms, b9, hlr, hok, z7, z8, rfl⟩
      have hlr2 : rooms.length = many := by omega
      refine ⟨_, rfl, _, rfl, _, rfl, _, rfl, _, rfl, W, mo, tl, congrArg (fun u => [V.ref W, tx tl, u]) emo, b9.well, tle.1, tle.2, by omega, fun y H10 hy hyw s10 w10 => ?_⟩
      refine ⟨line_ok (by show 3 ≤ 16000000; decide), fun a11 h11 => ?_⟩
      refine ⟨_, rfl, _, _, rfl, rfl, by show (0 : Int) < 3; decide, ?_⟩
      obtain ⟨z, hz, ez⟩ := pick_first y ((way : Int) % 3) (Int.emod_nonneg _ (by decide)) (Int.emod_lt_of_pos _ (by decide))
      refine ⟨a11, _, _, _, rfl, rfl, SqL.of upd_same, ez, line_ok (by show 3 ≤ 16000000; decide), fun t12 h12 => ?_⟩
      have b10 := b9.keep monoW_room nRW s10 w10
      have w11 := w10.put (o := .lst [tx y, .str "", .str ""]) (w10.ne_new h11)
      have b11 := b10.keep monoW_room nRW (same_upd h11).but w11
      have w12 := w11.put (o := .tup [tx ls, .ref R, tx z]) (w11.ne_new h12)
      have b12 := b11.keep monoW_room nRW (same_upd h12).but w12
      refine q t12 R ⟨ls, rooms, z⟩ _ (s08.trans b12.same) w12 upd_same hHR b12.ex ⟨L, ⟨by show 0 < rooms.length; omega, by show rooms.length ≤ 200; omega, fun rm hrm => ?_⟩, ?_, ?_⟩ (by show rooms.length ≤ 12; omega)
      · rw [hlr2]
        exact hok rm hrm
      · show SgT z
        rcases hz with rfl | rfl
        · exact wsg _ hyw
        · exact SgT.nil
      · show z.length ≤ 2
        rcases hz with rfl | rfl
        · omega
        · exact Nat.zero_le _
end
end K70
namespace K70
open PySem PySem.Spec PyProof.Rows L2
theorem RoomsIn.keep {W R : Addr} {H H2 : Hp} {rs : List Rm} (h : RoomsIn H R rs) (w : WellAt H W) (n : R ≠ W) (s : SameBut W H H2) : RoomsIn H2 R rs := by
  obtain ⟨vs, e, l, q⟩ := h
  exact ⟨vs, s _ _ n e, l, fun i v x h1 h2 => (q i v x h1 h2).well s.off (w.off n)⟩
theorem RoomsIn.set {R : Addr} {H : Hp} {rs : List Rm} {vs : List V} {v : V} {r : Rm} {k : Nat} (h : RoomsIn H R rs) (e : H R = some (.lst vs)) (hv : RoomN (Off R H) v r) : RoomsIn (upd H R (.lst (vs.set k v))) R (rs.set k r) := by
  obtain ⟨us, e2, l, q⟩ := h
  rw [e] at e2
  cases e2
  refine ⟨_, upd_same, by rw [List.length_set, List.length_set, l], ?_⟩
  rw [off_upd]
  intro i u x h1 h2
  by_cases hi : i = k
  · subst hi
    have hl := (List.getElem?_eq_some_iff.mp h1).1
    rw [List.length_set] at hl
    rw [List.getElem?_set_self hl] at h1
    rw [List.getElem?_set_self (by omega)] at h2
    cases h1
    cases h2
    exact hv
  · rw [List.getElem?_set_ne (Ne.symm hi)] at h1 h2
    exact q i u x h1 h2
theorem ROk.set {ls : Tx} {B k : Nat} {rs : List Rm} (R : ROk ls B rs) {r : Rm} (h : SgT r.1 ∧ r.1.length ≤ B ∧ r.2.length = ls.length ∧ ∀ w ∈ r.2, SgT w.1 ∧ w.1.length ≤ B ∧ w.2 < rs.length) : ROk ls B (rs.set k r) where
  pos := by rw [List.length_set]; exact R.pos
  le := by rw [List.length_set]; exact R.le
  room := fun x hx => by
    rw [List.length_set]
    rcases List.mem_or_eq_of_mem_set hx with q | q
    · exact R.room x q
    · rw [q]; exact h
theorem RoomN.mono {H H' : Hp} {v : V} {r : Rm} (s : Same H H') (h : RoomN H v r) : RoomN H' v r := ⟨h.1.mono s, h.2⟩
def MadeAt (H : Hp) (t : Addr) (m : M) : Prop := ∃ R, H t = some (.tup [tx m.letters, .ref R, tx m.first]) ∧ RoomsAt H R m.rooms
theorem RoomsIn.at {H : Hp} {R : Addr} {rs : List Rm} (h : RoomsIn H R rs) : RoomsAt H R rs := by
  obtain ⟨vs, e, l, q⟩ := h
  exact ⟨vs, e, l, fun i v x h1 h2 => ((q i v x h1 h2).1).mono off_same⟩
theorem MadeAt.mono {H H' : Hp} {t : Addr} {m : M} (s : Same H H') (h : MadeAt H t m) : MadeAt H' t m := by
  obtain ⟨R, e, A⟩ := h
  exact ⟨R, s _ _ e, A.mono s⟩
theorem MadeAt.well {H H' : Hp} {W t : Addr} {m : M} {B : Nat} (s : SameBut W H H') (h : WellAt H W) (O : MOk B m) (q : MadeAt H t m) : MadeAt H' t m := by
  obtain ⟨R, e, A⟩ := q
  exact ⟨R, s _ _ (h.ne_tup e) e, A.well s h (O.r.lead O.l).1 (O.r.lead O.l).2⟩
section
variable {P : Program} {w : World} {K : PySem.W.Frag} {mg : Str → Option Value} {base : Heap} {C f : Addr} {fd : FuncData}
/-! ### _law_seamy -/
abbrev sSeamy : Stmt := top 49
abbrev nSeamy : List Str := ["_law_well_here", "_law_way", "_law_letters", "_law_rooms", "_law_first", "_law_nr"]
theorem scSeamy : FnScope nSeamy ["_law_well_here"] (defScope sSeamy) := ⟨rfl, rfl, rfl, by decide +kernel, rfl, by decide +kernel, by decide +kernel⟩
def spSeamy : Sp := fun vs H Q _ => ∃ (W : Nat), vs = [.ref W] ∧ WellAt H W ∧ ∀ t m H', SameBut W H H' → WellAt H' W → MadeAt H' t m → MOk 2 m → m.rooms.length ≤ 12 → Q (.ref t) H'
theorem ok_seamy (F : FnP K "_law_seamy" "_law_seamy" sSeamy f fd) (T : Txt K mg C) (cD : Cal P w K mg base 1 "_law_draw" spDraw []) (cM : Cal P w K mg base 3 "_law_made" spMade []) : FnOk P w K mg base CX0 4 f fd ["_law_well_here"] spSeamy := by
  refine okD F scSeamy (fun vs H Q E h => ?_) (fun cdv A outer s H vs Q E hr h => ?_)
  · obtain ⟨W, rfl, _⟩ := h
    rfl
  · obtain ⟨W, rfl, Wl, q⟩ := h
    refine ⟨_, pss_cons (ps_set (i := 1) scSeamy.nd rfl (.inl rfl) (ca cD hr (by decide) (by rfl) (pa_cons (pv 0) (pa_cons pe_int pa_nil))))
      (pss_cons (ps_asg (ca cM hr (by decide) (by rfl) (pa_cons (pv 0) pa_nil)) (pg_tup rfl (pgs_cons (pg_name (i := 2) scSeamy.nd rfl (.inl rfl)) (pgs_cons (pg_name (i := 3) scSeamy.nd rfl (.inl rfl)) (pgs_cons (pg_name (i := 4) scSeamy.nd rfl (.inl rfl)) pgs_nil)))))
      (pss_cons (ps_if (pt_cmpR op_gt (pv 1) pe_int (nomark _)) (pss_cons (ps_asg (pe_tup (pa_cons pe_str (pa_cons (pe_ix ix_tup (pe_ix ix_list (pv 3) pe_int (fun _ _ => rfl)) pe_int (fun _ _ => rfl)) pa_nil))) (pg_sub (pv 3) pe_int set_list)) (pss_one (ps_set (i := 4) scSeamy.nd rfl (.inl rfl) pe_str))) pss_nil)
      (pss_cons (ps_if (pt_cmpR op_gt (pv 1) pe_int (nomark _)) (pss_cons (ps_set (i := 5) scSeamy.nd rfl (.inl rfl) (ca cD hr (by decide) (by rfl) (pa_cons (pv 0) (pa_cons (pe_callB call_len_seq (by rfl) T.len PySem.boot_len (pa_cons (pv 3) pa_nil)) pa_nil))))
          (pss_one (ps_asg (pe_ix ix_list (pv 3) pe_int (fun _ _ => rfl)) (pg_sub (pv 3) (pv 5) set_list)))) pss_nil)
      (pss_one (ps_ret (pe_tup (pa_cons (pv 2) (pa_cons (pv 3) (pa_cons (pv 4) pa_nil))))))))), ?_⟩
    refine ⟨_, rfl, W, 8, rfl, Wl, by decide, by decide, fun way H1 hway s1 w1 => ?_⟩
    refine ⟨_, rfl, W, rfl, w1, fun t R m H2 s2 w2 e2 hR A2 O h12 => ?_⟩
    refine ⟨t, _, rfl, SqT.of e2, rfl, _, _, rfl, _, _, rfl, _, _, rfl, rfl, ?_⟩
    have nRW := w1.ne_new hR
    have s02 := s1.trans s2
    have hHR : H R = none := by
      cases e : H R with
      | none => rfl
      | some o => rw [s1 _ _ nRW e] at hR; cases hR
    have fin : ∀ (rs : List Rm) (fs : Tx) (H' : Hp) (z : Option V), SameBut W H H' → WellAt H' W → RoomsIn H' R rs → MOk 2 ⟨m.letters, rs, fs⟩ → rs.length ≤ 12 →
        tRet (tTup (tCons (tVar 2) (tCons (tVar 3) (tCons (tVar 4) tNil)))) { nx := fun _ H' => Q V.non H', rt := Q } [some (.ref W), some (nn way), some (tx m.letters), some (.ref R), some (tx fs), z] H' := by
      intro rs fs H' z s' w' A' O' h'
      refine ⟨_, rfl, _, rfl, _, rfl, line_ok (by show 3 ≤ 16000000; decide), fun t9 h9 => ?_⟩
      exact q t9 ⟨m.letters, rs, fs⟩ _ (s'.up h9) (w'.put (w'.ne_new h9)) ⟨R, upd_same, (A'.keep w' nRW (same_upd h9).but).at⟩ O' h'
    refine ⟨_, rfl, _, _, rfl, rfl, _, rfl, ?_⟩
    by_cases hw0 : 0 < way
    · rw [decide_eq_true (by omega : (0 : Int) < (way : Int))]
      obtain ⟨vs, eR, lR, kR⟩ := id A2
      have h0 : 0 < m.rooms.length := O.r.pos
      have ev := List.getElem?_eq_getElem (show 0 < vs.length by omega)
      obtain ⟨⟨t0, p, et, et0, A0⟩, hne⟩ := kR 0 _ _ ev (List.getElem?_eq_getElem h0)
      rw [et] at ev
      have et2 := off_same _ _ et0
      refine iteT ⟨_, rfl, R, vs, 0, _, rfl, rfl, SqL.of eR, atI_nat (j := 0) ev, t0, _, 1, .ref p, rfl, rfl, SqT.of et2, rfl, two_ok, fun t3 h3 => ?_⟩
      have s3 := same_upd (o := .tup [.str "", .ref p]) h3
      have n3 : t3 ≠ R := fun z => by rw [z, eR] at h3; cases h3
      have w3 := w2.put (o := .tup [.str "", .ref p]) (w2.ne_new h3)
      have A3 := A2.keep w2 nRW s3.but
      have hroom := O.r.room _ (List.getElem_mem h0)
      have N3 : RoomN (Off R (upd H2 t3 (.tup [.str "", .ref p]))) (.ref t3) ([], m.rooms[0].2) := ⟨⟨t3, p, rfl, by rw [off_at n3, upd_same]; rfl, LAt.mono (R := WayAt) (fun a b => WayAt.mono a b) s3.off A0⟩, hne⟩
      have A4 := A3.set (k := 0) (s3 _ _ eR) N3
      have s4 : SameBut W H (upd (upd H2 t3 (.tup [.str "", .ref p])) R (.lst (vs.set 0 (.ref t3)))) := (s02.trans s3.but).put hHR
      have w4 := w3.put (o := .lst (vs.set 0 (.ref t3))) nRW
      have R4 : ROk m.letters 2 (m.rooms.set 0 ([], m.rooms[0].2)) := O.r.set ⟨SgT.nil, Nat.zero_le _, hroom.2.2.1, hroom.2.2.2⟩
      have eR4 : (upd (upd H2 t3 (.tup [.str "", .ref p])) R (.lst (vs.set 0 (.ref t3)))) R = some (.lst (vs.set 0 (.ref t3))) := upd_same
      have l4 : (m.rooms.set 0 ([], m.rooms[0].2)).length = m.rooms.length := List.length_set
      refine ⟨_, rfl, R, vs, 0, 0, rfl, rfl, s3 _ _ eR, ixN_nat (k := 0) (by omega), ?_⟩
      revert A4 s4 w4 eR4
      generalize (upd (upd H2 t3 (.tup [.str "", .ref p])) R (.lst (vs.set 0 (.ref t3)))) = H4
      generalize vs.set 0 (.ref t3) = vs4
      intro A4 s4 w4 eR4
      generalize m.rooms.set 0 ([], m.rooms[0].2) = rs4 at *
      refine ⟨_, rfl, _, _, rfl, rfl, _, rfl, ?_⟩
      by_cases hw5 : 5 < way
      · rw [decide_eq_true (by omega : (5 : Int) < (way : Int))]
        have l4v : vs4.length = rs4.length := by
          obtain ⟨us, e5, l5, _⟩ := A4
          rw [eR4] at e5
          cases e5
          exact l5
        refine iteT ⟨_, rfl, _, rfl, R, vs4, rfl, .inl (SqL.of eR4), W, vs4.length, rfl, w4, by omega, by omega, fun nr H5 hnr s5 w5 => ?_⟩
        have eR5 := s5 _ _ nRW eR4
        have A5 := A4.keep w4 nRW s5
        obtain ⟨us5, e5, l5, k5⟩ := id A5
        rw [eR5] at e5
        cases e5
        have h04 : 0 < rs4.length := by omega
        have ev4 := List.getElem?_eq_getElem (show 0 < vs4.length by omega)
        have N5 := k5 0 _ _ ev4 (List.getElem?_eq_getElem h04)
        refine ⟨_, rfl, R, vs4, 0, _, rfl, rfl, SqL.of eR5, atI_nat (j := 0) ev4, _, rfl, _, rfl, R, vs4, _, nr, rfl, rfl, eR5, ixN_nat hnr, ?_⟩
        refine fin (rs4.set nr rs4[0]) [] _ _ ((s4.trans s5).put hHR) (w5.put nRW) (A5.set eR5 N5) ⟨O.l, R4.set (R4.room _ (List.getElem_mem h04)), SgT.nil, Nat.zero_le _⟩ (by rw [List.length_set]; omega)
      · rw [decide_eq_false (by omega)]
        exact iteF (fin rs4 [] H4 _ s4 w4 A4 ⟨O.l, R4, SgT.nil, Nat.zero_le _⟩ (by omega))
    · rw [decide_eq_false (by omega)]
      refine iteF ⟨_, rfl, _, _, rfl, rfl, _, rfl, ?_⟩
      rw [decide_eq_false (by omega)]
      exact iteF (fin m.rooms m.first H2 _ s02 w2 A2 O h12)
/-! ### _law_machine -/
abbrev sMach : Stmt := top 46
abbrev nMach : List Str := ["_law_made_here", "_law_letters", "_law_rooms", "_law_first", "_law_end", "_law_ways"]
theorem scMach : FnScope nMach ["_law_made_here"] (defScope sMach) := ⟨rfl, rfl, rfl, by decide +kernel, rfl, by decide +kernel, by decide +kernel⟩
def spMach (C : Addr) : Sp := fun vs H Q _ => ∃ (t : Nat) (m : M), vs = [.ref t] ∧ MadeAt H t m ∧ MOk 2 m ∧ ∀ p H', Same H H' → MAt C H' p m → Q (.ref p) H'
theorem ok_mach (F : FnP K "_law_machine" "_law_machine" sMach f fd) (T : Txt K mg C) (cM : Mak P w K mg base 4 "Machine" C (spInit C) []) : FnOk P w K mg base CX0 6 f fd ["_law_made_here"] (spMach C) := by
  refine okD F scMach (fun vs H Q E h => ?_) (fun cdv A outer s H vs Q E hr h => ?_)
  · obtain ⟨t, m, rfl, _⟩ := h
    rfl
  · obtain ⟨t, m, rfl, ⟨R, et, A4⟩, O, q⟩ := h
    refine ⟨_, pss_cons (ps_asg (pv 0) (pg_tup rfl (pgs_cons (pg_name (i := 1) scMach.nd rfl (.inl rfl)) (pgs_cons (pg_name (i := 2) scMach.nd rfl (.inl rfl)) (pgs_cons (pg_name (i := 3) scMach.nd rfl (.inl rfl)) pgs_nil)))))
      (pss_one (ps_ret (mk_ cM hr (by decide) (by rfl) (pa_cons (pv 1) (pa_cons (pe_lc (own := [("_law_end", 4), ("_law_ways", 5)]) (g := gTup K 2 (gCons (gName 4) (gCons (gName 5) gNil))) (tt := tYes) rfl scMach.nd (pi_list (pv 2)) (blkOk_by (N := nMach) (sc := defScope sMach) (by decide +kernel))
        (fun _ _ _ _ _ => pg_tup rfl (pgs_cons (pg_name (i := 4) scMach.nd rfl (Or.inl rfl)) (pgs_cons (pg_name (i := 5) scMach.nd rfl (Or.inl rfl)) pgs_nil))) (fun _ _ _ _ _ => pts_nil)
        (fun _ _ _ _ _ => pe_tup (pa_cons (pv 4) (pa_cons (pe_callTy (T := "list") (r := rListOf K) call_list_of (by rfl) T.list (by decide +kernel) (pa_cons (pv 5) pa_nil)) pa_nil)))) (pa_cons (pv 3) pa_nil)))))), ?_⟩
    refine ⟨_, rfl, t, _, rfl, SqT.of et, rfl, _, _, rfl, _, _, rfl, _, _, rfl, rfl, ?_⟩
    obtain ⟨ws, e4, hw, k4⟩ := A4
    refine ⟨_, rfl, _, rfl, R, rfl, ⟨ws, SqL.of e4⟩, fun D2 hD2 => lc_it (walk_list (a := R) (xs := ws)) (fun i H5 => Bld RoomAt H D2 H5 (m.rooms.take i)) (Bld.start hD2) (fun i H5 _ h => SqL.of (h.same _ _ e4)) ?_ ?_⟩
    · rintro i x H5 H6 hi b5 ⟨rfl, ex⟩
      have hi' : i < m.rooms.length := by omega
      obtain ⟨t, a, rfl, et, us, eu, hu, ku⟩ := k4 i x _ ex (List.getElem?_eq_getElem hi')
      refine ⟨t, _, rfl, SqT.of (b5.same _ _ et), rfl, _, _, rfl, _, _, rfl, rfl, rfl, _, rfl, _, rfl, a, us, rfl, .inl (SqL.of (b5.same _ _ eu)), fun l2 hl2 => ⟨two_ok, fun t2 ht2 => ?_⟩⟩
      obtain ⟨vs5, ev5, _, _⟩ := b5.ex
      obtain ⟨sc, rc⟩ := room_copy (p := a) hD2 b5.same ev5 hu ku hl2 ht2
      obtain ⟨acc, ea, la, b6⟩ := b5.snoc mono_room hD2 sc rc
      refine ⟨acc, ea, line_lt (by rw [la, List.length_take]; have := O.r.le; omega), ?_⟩
      rw [take_snoc (List.getElem?_eq_getElem hi')]
      exact b6
    · rintro H5 b5
      have A5 : RoomsAt H5 D2 m.rooms := by
        have A5 := b5.done mono_room
        rw [hw, List.take_length] at A5
        exact A5
      refine ⟨_, rfl, fun x dx2 hx hdx hne => ?_⟩
      refine ⟨x, D2, dx2, 2, m, rfl, O, by decide, A5.mono (same_two hx hdx), upd_same, fun H8 b8 M8 => ⟨rfl, ?_⟩⟩
      exact q x H8 (b5.same.trans (same_new hx hdx b8)) M8
/-! ### _law_walk, _law_row -/
abbrev sLWalk : Stmt := top 47
abbrev nLWalk : List Str := ["_law_made_here", "_law_typed", "_law_letters", "_law_rooms", "_law_first", "_law_text_here", "_law_room", "_law_sign", "_law_put"]
theorem scLWalk : FnScope nLWalk ["_law_made_here", "_law_typed"] (defScope sLWalk) := ⟨rfl, rfl, rfl, by decide +kernel, rfl, by decide +kernel, by decide +kernel⟩
def spLWalk : Sp := fun vs H Q _ => ∃ (a : Nat) (y : Tx) (m : M), vs = [.ref a, tx y] ∧ MadeAt H a m ∧ MOk 2 m ∧ Wd m.letters y ∧ y.length ≤ 1000000 ∧ ∀ t H', Same H H' → H' t = some (.tup [tx (m.first ++ (walkF m.letters m.rooms 0 y).1), nn (m.room y)]) → Q (.ref t) H'
theorem ok_lwalk (F : FnP K "_law_walk" "_law_walk" sLWalk f fd) (T : Txt K mg C) : FnOk P w K mg base CX0 1 f fd ["_law_made_here", "_law_typed"] spLWalk := by
  refine okD F scLWalk (fun vs H Q E h => ?_) (fun cdv A outer s H vs Q E hr h => ?_)
  · obtain ⟨a, y, m, rfl, _⟩ := h
    rfl
  · obtain ⟨a, y, m, rfl, ⟨R, ea, A0⟩, O, W, hy, q⟩ := h
    refine ⟨_, pss_cons (ps_asg (pv 0) (pg_tup rfl (pgs_cons (pg_name (i := 2) scLWalk.nd rfl (.inl rfl)) (pgs_cons (pg_name (i := 3) scLWalk.nd rfl (.inl rfl)) (pgs_cons (pg_name (i := 4) scLWalk.nd rfl (.inl rfl)) pgs_nil)))))
      (pss_cons (ps_set (i := 5) scLWalk.nd rfl (.inl rfl) (pv 4))
      (pss_cons (ps_set (i := 6) scLWalk.nd rfl (.inl rfl) pe_int)
      (pss_cons (ps_for PassesOwn.never rfl (pi_str (pv 1)) (pg_name (i := 7) scLWalk.nd rfl (.inl rfl))
        (pss_cons (ps_asg (pe_ix ix_list (pe_ix ix_tup (pe_ix ix_list (pv 3) (pv 6) (fun _ _ => rfl)) pe_int (fun _ _ => rfl)) (pe_bmS PySem.F.plainAttrs_str PySem.F.slot_str_index PySem.F.type_str_index (mt_indexX rfl takes_no) (pv 2) (pa_cons (pv 7) pa_nil)) (fun _ _ => rfl))
          (pg_tup rfl (pgs_cons (pg_name (i := 8) scLWalk.nd rfl (.inl rfl)) (pgs_cons (pg_name (i := 6) scLWalk.nd rfl (.inl rfl)) pgs_nil))))
        (pss_one (ps_set (i := 5) scLWalk.nd rfl (.inl rfl) (pe_op op_add_str (pv 5) (pv 8))))))
      (pss_one (ps_ret (pe_tup (pa_cons (pv 5) (pa_cons (pv 6) pa_nil)))))))), ?_⟩
    refine ⟨_, rfl, a, _, rfl, SqT.of ea, rfl, _, _, rfl, _, _, rfl, _, _, rfl, rfl, ?_⟩
    refine ⟨_, rfl, ?_⟩
    refine ⟨_, rfl, SS y, rfl, for_it walk_str (fun i σ H1 => H1 = H ∧ ∃ z7 z8, σ = [some (.ref a), some (tx y), some (tx m.letters), some (.ref R), some (tx m.first), some (tx (m.first ++ (walkF m.letters m.rooms 0 (y.take i)).1)), some (nn (m.room (y.take i))), z7, z8]) ⟨rfl, none, none, ?_⟩ (fun _ _ _ _ _ => trivial) ?_ ?_⟩
    · show _ = [_, _, _, _, _, some (tx (m.first ++ [])), _, _, _]
      rw [List.append_nil]
      rfl
    · rintro i x σ H1 H2 hi ⟨rfl, z7, z8, rfl⟩ ⟨rfl, c, ec, rfl⟩
      have ec' : y[i]? = some c := by simpa using ec
      have hc : c ∈ m.letters := W c (List.mem_of_getElem? ec')
      have hk' := O.r.walk_lt (y.take i) 0 O.r.pos (W.take i)
      obtain ⟨vs, t, p2, ws, u, e1, e2, e3, e4, e5, e6⟩ := A0.way O.r hk' hc
      refine ⟨_, rfl, _, rfl, R, vs, _, _, rfl, rfl, SqL.of e1, atI_nat e2, t, _, 1, .ref p2, rfl, rfl, SqT.of e3, rfl, ?_⟩
      refine ⟨_, rfl, rfl, _, rfl, SS m.letters, ⟨#[c]⟩, rfl, rfl, ?_, fun z => (index_some hc z).elim⟩
      intro j hj
      rw [index_sign O.l hc hj]
      refine ⟨p2, ws, _, .ref u, rfl, rfl, SqL.of e4, atI_nat e5, u, _, rfl, SqT.of e6, rfl, _, _, rfl, _, _, rfl, rfl, ?_⟩
      refine ⟨_, rfl, _, rfl, _, _, rfl, rfl, ?_, rfl, some (sgn c), some (tx (wayAt m.letters m.rooms (m.room (y.take i)) c).1), ?_⟩
      · rw [ss_len, ss_len, List.length_append]
        have h1 := O.r.walk_len (y.take i) 0 O.r.pos (W.take i)
        have h2 := O.r.way_len hk' hc
        have h3 := O.fl
        rw [List.length_take] at h1
        exact line_ok (by omega)
      · rw [ss_app]
        unfold M.room
        rw [take_snoc ec', walk_snoc, List.append_assoc]
        rfl
    · rintro σ H1 ⟨rfl, z7, z8, rfl⟩
      have hy : y.take (SS y).cps.size = y := by
        have : (SS y).cps.size = y.length := by simp
        rw [this, List.take_length]
      rw [hy]
      exact ⟨_, rfl, _, rfl, two_ok, fun t ht => q t _ (same_upd ht) upd_same⟩
abbrev sLRow : Stmt := top 48
abbrev nLRow : List Str := ["_law_made_here", "_law_typed", "_law_text_here", "_law_room"]
theorem scLRow : FnScope nLRow ["_law_made_here", "_law_typed"] (defScope sLRow) := ⟨rfl, rfl, rfl, by decide +kernel, rfl, by decide +kernel, by decide +kernel⟩
def spLRow : Sp := fun vs H Q _ => ∃ (a : Nat) (y : Tx) (m : M), vs = [.ref a, tx y] ∧ MadeAt H a m ∧ MOk 2 m ∧ Wd m.letters y ∧ y.length ≤ 1000000 ∧ ∀ H', Same H H' → Q (tx (m.row y)) H'
theorem ok_lrow (F : FnP K "_law_row" "_law_row" sLRow f fd) (T : Txt K mg C) (cW : Cal P w K mg base 1 "_law_walk" spLWalk []) : FnOk P w K mg base CX0 2 f fd ["_law_made_here", "_law_typed"] spLRow := by
  refine okD F scLRow (fun vs H Q E h => ?_) (fun cdv A outer s H vs Q E hr h => ?_)
  · obtain ⟨a, y, m, rfl, _⟩ := h
    rfl
  · obtain ⟨a, y, m, rfl, Md, O, W, hy, q⟩ := h
    refine ⟨_, pss_cons (ps_asg (ca cW hr (by decide) (by rfl) (pa_cons (pv 0) (pa_cons (pv 1) pa_nil))) (pg_tup rfl (pgs_cons (pg_name (i := 2) scLRow.nd rfl (.inl rfl)) (pgs_cons (pg_name (i := 3) scLRow.nd rfl (.inl rfl)) pgs_nil))))
      (pss_one (ps_ret (pe_op op_add_str (pv 2) (pe_ix ix_tup (pe_ix ix_list (pe_ix ix_tup (pv 0) pe_int (fun _ _ => rfl)) (pv 3) (fun _ _ => rfl)) pe_int (fun _ _ => rfl))))), ?_⟩
    refine ⟨_, rfl, _, rfl, a, y, m, rfl, Md, O, W, hy, fun t H1 s1 et => ?_⟩
    refine ⟨t, _, rfl, SqT.of et, rfl, _, _, rfl, _, _, rfl, rfl, ?_⟩
    obtain ⟨R, ea, A0⟩ := Md
    have hk := O.r.walk_lt y 0 O.r.pos W
    obtain ⟨vs, t2, p2, ws, e1, hl, e2, e3, _⟩ := (A0.mono s1).room hk
    refine ⟨_, rfl, _, rfl, a, _, 1, .ref R, rfl, rfl, SqT.of (s1 _ _ ea), rfl, _, rfl, R, vs, _, _, rfl, rfl, SqL.of e1, atI_nat e2, t2, _, 0, _, rfl, rfl, SqT.of e3, rfl, _, _, rfl, rfl, ?_, ?_⟩
    · rw [ss_len, ss_len, List.length_append]
      have h1 := O.r.walk_len y 0 O.r.pos W
      have h2 := O.fl
      have h3 := (O.r.room_at hk).2.1
      exact line_ok (by omega)
    · rw [ss_app, List.append_assoc]
      exact q H1 s1
end
end K70
namespace K70
open PySem PySem.Spec PyProof.Rows L2
def iD (ns : List Nat) : PyData := .list (ns.map fun n : Nat => PyData.int (n : Int))
def tD (ts : List Tx) : PyData := .list (ts.map fun t => .str (SS t))
theorem dpAll_nn {K : PySem.W.Frag} {H : Hp} : ∀ ns : List Nat, DpAll K H (ns.map nn) (ns.map fun n : Nat => PyData.int (n : Int))
  | [] => .nil
  | n :: ns => .cons (.int _) (dpAll_nn ns)
theorem dpAll_tx {K : PySem.W.Frag} {H : Hp} : ∀ ts : List Tx, DpAll K H (ts.map tx) (ts.map fun t => PyData.str (SS t))
  | [] => .nil
  | t :: ts => .cons (.str _) (dpAll_tx ts)
theorem dp_nn {K : PySem.W.Frag} {H : Hp} {a : Addr} {ns : List Nat} (h : H a = some (.lst (ns.map nn))) : Dp K H (.ref a) (iD ns) := .lst (SqL.of h) (dpAll_nn ns)
theorem dp_tx {K : PySem.W.Frag} {H : Hp} {a : Addr} {ts : List Tx} (h : H a = some (.lst (ts.map tx))) : Dp K H (.ref a) (tD ts) := .lst (SqL.of h) (dpAll_tx ts)
theorem lay_nn : ∀ ns : List Nat, PyData.canLayAll0 (ns.map fun n : Nat => PyData.int (n : Int)) = true
  | [] => by simp [PyData.canLayAll0]
  | n :: ns => by simp [PyData.canLayAll0, PyData.canLay0, lay_nn ns]
theorem dep_nn : ∀ ns : List Nat, PyData.depthAll (ns.map fun n : Nat => PyData.int (n : Int)) = 0
  | [] => by simp [PyData.depthAll]
  | n :: ns => by simp [PyData.depthAll, PyData.depth, dep_nn ns]
theorem sh_nn (ns : List Nat) : SeqAt.shaped (iD ns) = true := by
  show (PyData.canLay0 (.list _) && decide (PyData.depth (.list _) ≤ 64)) = true
  rw [Bool.and_eq_true]
  refine ⟨by simp only [PyData.canLay0]; exact lay_nn ns, decide_eq_true ?_⟩
  simp only [PyData.depth, dep_nn]
  omega
theorem dep_tx : ∀ ts : List Tx, PyData.depthAll (ts.map fun t => PyData.str (SS t)) = 0
  | [] => by simp [PyData.depthAll]
  | n :: ns => by simp [PyData.depthAll, PyData.depth, dep_tx ns]
theorem lay_tx : ∀ ts : List Tx, (∀ t ∈ ts, PyData.canLay0 (.str (SS t)) = true) → PyData.canLayAll0 (ts.map fun t => PyData.str (SS t)) = true
  | [], _ => by simp [PyData.canLayAll0]
  | n :: ns, h => by
    have h1 := h n List.mem_cons_self
    have h2 := lay_tx ns fun t ht => h t (List.mem_cons_of_mem _ ht)
    simp [PyData.canLayAll0, h1, h2]
theorem sh_tx (ts : List Tx) (h : ∀ t ∈ ts, PyData.canLay0 (.str (SS t)) = true) : SeqAt.shaped (tD ts) = true := by
  show (PyData.canLay0 (.list _) && decide (PyData.depth (.list _) ≤ 64)) = true
  rw [Bool.and_eq_true]
  refine ⟨by simp only [PyData.canLay0]; exact lay_tx ts h, decide_eq_true ?_⟩
  simp only [PyData.depth, dep_tx]
  omega
theorem refl_of {d : PyData} (h : SeqAt.shaped d = true) : (!PyData.eqv d d) = false := by rw [SeqAt.eqv_refl d (SeqAt.canLay_of_shaped h)]; rfl
theorem scal_opt (r : Option Tx) : scal (optV r) (optV r) = true := by cases r <;> rfl
theorem str_lay {t : Tx} (h : SgT t) : PyData.canLay0 (.str (SS t)) = true := by
  have h1 := sg_small h
  simp only [PyData.canLay0]
  show (SS t).cps.all (· < 0x110000) = true
  rw [Array.all_eq_true] at h1 ⊢
  intro i hi
  have := of_decide_eq_true (h1 i hi)
  exact decide_eq_true (by omega)
section
variable {P : Program} {w : World} {K : PySem.W.Frag} {mg : Str → Option Value} {base : Heap} {C f : Addr} {fd : FuncData}
/-! ### _law_behind_right -/
abbrev sBeh : Stmt := top 50
abbrev nBeh : List Str := ["_law_reader", "_law_left", "_law_right", "_law_cut", "_law_both", "_law_nr", "_law_ahead"]
theorem scBeh : FnScope nBeh ["_law_reader", "_law_left", "_law_right"] (defScope sBeh) := ⟨rfl, rfl, rfl, by decide +kernel, rfl, by decide +kernel, by decide +kernel⟩
def spBeh (C : Addr) : Sp := fun vs H Q _ => ∃ (p B : Nat) (m : M) (x y : Tx), vs = [.ref p, tx x, tx y] ∧ MAt C H p m ∧ MOk B m ∧ B ≤ 100 ∧ Wd m.letters x ∧ Wd m.letters y ∧ x.length ≤ 100 ∧ y.length ≤ 100 ∧ IsSeam m x ∧ ∀ H', Same H H' → Q (.bl true) H'
theorem sg_pieces {m : M} {x : Tx} (h : SgT x) : ∀ t ∈ piecesL m x, PyData.canLay0 (.str (SS t)) = true := by
  intro t ht
  unfold piecesL pcs at ht
  obtain ⟨p, _, rfl⟩ := List.mem_map.mp ht
  exact str_lay fun c hc => h c (List.mem_of_mem_drop (List.mem_of_mem_take hc))
theorem seams_len (m : M) (x : Tx) : (seamsL m x).length ≤ x.length + 1 := by
  unfold seamsL
  have := List.length_filter_le (fun i => seamB m (x.take i)) (List.range (x.length + 1))
  rwa [List.length_range] at this
theorem pieces_len (m : M) (x : Tx) : (piecesL m x).length ≤ x.length + 3 := by
  unfold piecesL pcs cutsOf
  rw [List.length_map]
  refine Nat.le_trans (List.length_filter_le _ _) ?_
  rw [List.length_zip, List.length_append, List.length_append]
  have := seams_len m x
  show min (1 + _ + 1) _ ≤ _
  omega
theorem ok_beh (F : FnP K "_law_behind_right" "_law_behind_right" sBeh f fd) (T : Txt K mg C) (cS : Cal P w K mg base 8 "seams" (spSeams C) []) (cP : Cal P w K mg base 9 "pieces" (spPieces C) []) (cPk : CalK P w K mg base 9 "pieces" 0 ["word", "machine"] (spPieces C) gRev) (cN : Cal P w K mg base 6 "no_seam" (spNoSeam C) []) : FnOk P w K mg base CX0 10 f fd ["_law_reader", "_law_left", "_law_right"] (spBeh C) := by
  refine okD F scBeh (fun vs H Q E h => ?_) (fun cdv A outer s H vs Q E hr h => ?_)
  · obtain ⟨p, B, m, x, y, rfl, _⟩ := h
    rfl
  · obtain ⟨p, B, m, x, y, rfl, Mt, O, hB, Wx, Wy, hx, hy, hse, q⟩ := h
    refine ⟨_, pss_cons (ps_asg (pe_tup (pa_cons (pe_callB call_len_str (by rfl) T.len PySem.boot_len (pa_cons (pv 1) pa_nil)) (pa_cons (pe_op op_add_str (pv 1) (pv 2)) pa_nil))) (pg_tup rfl (pgs_cons (pg_name (i := 3) scBeh.nd rfl (.inr rfl)) (pgs_cons (pg_name (i := 4) scBeh.nd rfl (.inl rfl)) pgs_nil))))
      (pss_cons (ps_setLc (i := 6) (own := [("_law_nr", 5)]) (g := gName 5) rfl scBeh.nd rfl rfl (sw_true rfl rfl rfl (by decide +kernel)) (pi_list (ca cS hr (by decide) (by rfl) (pa_cons (pv 0) (pa_cons (pv 1) pa_nil)))) (blkOk_by (N := nBeh) (sc := defScope sBeh) (by decide +kernel))
        (fun _ _ _ _ _ => pg_name (i := 5) scBeh.nd rfl (Or.inl rfl)) (fun _ _ _ _ _ => pts_one (pt_cmpR op_lt (pv 5) (pv 3) (nomark _))) (fun _ _ _ _ _ => pv 5))
      (pss_cons (ps_if (pt_cmpR (op_neD hr.units) (ca cS hr (by decide) (by rfl) (pa_cons (pv 0) (pa_cons (pv 4) pa_nil))) (pe_op op_cat (pv 6) (pe_lc (own := [("_law_nr", 5)]) (g := gName 5) (tt := tYes) rfl scBeh.nd (pi_list (ca cS hr (by decide) (by rfl) (pa_cons (pv 0) (pa_cons (pv 2) pa_nil)))) (blkOk_by (N := nBeh) (sc := defScope sBeh) (by decide +kernel))
        (fun _ _ _ _ _ => pg_name (i := 5) scBeh.nd rfl (Or.inl rfl)) (fun _ _ _ _ _ => pts_nil) (fun _ _ _ _ _ => pe_op op_add (pv 3) (pv 5)))) (nomark _)) (pss_one ps_never) pss_nil)
      (pss_cons (ps_if (pt_cmpR (op_neD hr.units) (caK0 cPk hr (by decide) (by rfl) (pk_cons (pv 4) (pk_cons (pv 0) pk_nil))) (pe_op op_cat (ca cP hr (by decide) (by rfl) (pa_cons (pv 0) (pa_cons (pv 1) pa_nil))) (ca cP hr (by decide) (by rfl) (pa_cons (pv 0) (pa_cons (pv 2) pa_nil)))) (nomark _)) (pss_one ps_never) pss_nil)
      (pss_cons (ps_for PassesOwn.never rfl (pi_range1 (by rfl) T.range (pa_cons (pe_op op_add (pe_callB call_len_str (by rfl) T.len PySem.boot_len (pa_cons (pv 2) pa_nil)) pe_int) pa_nil)) (pg_name (i := 5) scBeh.nd rfl (.inl rfl))
        (pss_one (ps_if (pt_cmpR op_ne (ca cN hr (by decide) (by rfl) (pa_cons (pv 0) (pa_cons (pv 4) (pa_cons (pe_op op_add (pv 3) (pv 5)) pa_nil)))) (ca cN hr (by decide) (by rfl) (pa_cons (pv 0) (pa_cons (pv 2) (pa_cons (pv 5) pa_nil)))) (nomark _)) (pss_one ps_never) pss_nil)))
      (pss_one (ps_ret pe_bl)))))), ?_⟩
    have zx : (SS x).length ≤ sizeLine := by rw [ss_len]; exact line_ok (by omega)
    have zy : (SS y).length ≤ sizeLine := by rw [ss_len]; exact line_ok (by omega)
    have Wxy : Wd m.letters (x ++ y) := Wx.app Wy
    have lxy : (x ++ y).length = x.length + y.length := List.length_append
    have hBxy : B * (x ++ y).length ≤ 100000 := Nat.le_trans (Nat.mul_le_mul hB (by rw [lxy]; omega : (x ++ y).length ≤ 200)) (by decide)
    have hBy : B * y.length ≤ 100000 := Nat.le_trans (Nat.mul_le_mul hB hy) (by decide)
    refine ⟨_, rfl, SS x, rfl, zx, _, rfl, _, rfl, _, _, rfl, rfl, by rw [ss_len, ss_len]; exact line_ok (by omega), two_ok, fun t1 h1 => ?_⟩
    rw [ss_app, ss_len]
    refine ⟨t1, _, rfl, SqT.of upd_same, rfl, _, _, rfl, _, _, rfl, rfl, ?_⟩
    have s1 := same_upd (o := .tup [nn x.length, tx (x ++ y)]) h1
    generalize (upd H t1 (.tup [nn x.length, tx (x ++ y)])) = H1 at *
    have sl1 := seams_len m x
    have sl2 := seams_len m y
    have pl1 := pieces_len m x
    have pl2 := pieces_len m y
    refine ⟨_, rfl, _, rfl, p, B, m, x, rfl, Mt.mono s1, O, by omega, Wx, by omega, fun a2 H2 s2 _ e2 => ⟨a2, rfl, ⟨_, SqL.of e2⟩, fun a3 h3 => ?_⟩⟩
    have s12 := s1.trans s2
    refine lc_it (walk_list (a := a2) (xs := (seamsL m x).map nn)) (fun i H3 => Same H2 H3 ∧ H3 a3 = some (.lst ((((seamsL m x).take i).filter (fun n => decide (n < x.length))).map nn))) ⟨same_upd h3, upd_same⟩ (fun i H3 _ h => SqL.of (h.1 _ _ e2)) ?_ ?_
    · rintro i v H3 H4 hi ⟨s3, e3⟩ ⟨rfl, ev⟩
      have hi' : i < (seamsL m x).length := by rw [List.length_map] at hi; exact hi
      have ei := List.getElem?_eq_getElem hi'
      rw [List.getElem?_map, ei] at ev
      cases ev
      refine ⟨rfl, _, rfl, _, rfl, _, _, rfl, rfl, _, rfl, ?_⟩
      rw [take_snoc ei, List.filter_append, List.map_append]
      generalize (seamsL m x)[i] = c at *
      by_cases hc : c < x.length
      · rw [decide_eq_true (by omega : (c : Int) < (x.length : Int))]
        have : List.filter (fun n => decide (n < x.length)) [c] = [c] := by simp [hc]
        rw [this]
        refine iteT ⟨_, rfl, _, e3, line_lt ?_, s3.put h3, upd_same⟩
        rw [List.length_map]
        have := List.length_filter_le (fun n => decide (n < x.length)) ((seamsL m x).take i)
        rw [List.length_take] at this
        omega
      · rw [decide_eq_false (by omega)]
        have : List.filter (fun n => decide (n < x.length)) [c] = [] := by simp [hc]
        rw [this, List.map_nil, List.append_nil]
        exact iteF ⟨s3, e3⟩
    rintro H3 ⟨s3, e3⟩
    rw [List.length_map, List.take_length] at e3
    have s13 := s12.trans s3
    have fl : ((seamsL m x).filter (fun n => decide (n < x.length))).length ≤ x.length + 1 := Nat.le_trans (List.length_filter_le _ _) sl1
    refine ⟨_, rfl, _, rfl, p, B, m, x ++ y, rfl, Mt.mono s13, O, by omega, Wxy, by omega, fun a4 H4 s4 _ e4 => ?_⟩
    have s14 := s13.trans s4
    refine ⟨_, rfl, _, rfl, _, rfl, p, B, m, y, rfl, Mt.mono s14, O, by omega, Wy, by omega, fun a5 H5 s5 _ e5 => ⟨a5, rfl, ⟨_, SqL.of e5⟩, fun a6 h6 => ?_⟩⟩
    refine lc_it (walk_list (a := a5) (xs := (seamsL m y).map nn)) (fun i H6 => Same H5 H6 ∧ H6 a6 = some (.lst ((((seamsL m y).take i).map (x.length + ·)).map nn))) ⟨same_upd h6, upd_same⟩ (fun i H6 _ h => SqL.of (h.1 _ _ e5)) ?_ ?_
    · rintro i v H6 H7 hi ⟨s6, e6⟩ ⟨rfl, ev⟩
      have hi' : i < (seamsL m y).length := by rw [List.length_map] at hi; exact hi
      have ei := List.getElem?_eq_getElem hi'
      rw [List.getElem?_map, ei] at ev
      cases ev
      refine ⟨rfl, _, rfl, _, rfl, _, _, rfl, rfl, _, e6, line_lt (by rw [List.length_map, List.length_map, List.length_take]; omega), s6.put h6, ?_⟩
      rw [upd_same, take_snoc ei, List.map_append, List.map_append]
      rfl
    rintro H6 ⟨s6, e6⟩
    rw [List.length_map, List.take_length] at e6
    have s56 := s5.trans s6
    refine ⟨a3, a6, _, _, rfl, rfl, s56 _ _ (s4 _ _ e3), e6, line_ok (by rw [List.length_map, List.length_map, List.length_map]; omega), fun a7 h7 => ?_⟩
    rw [← List.map_append, ← seams_behind Wx Wy hse]
    have e7 : (upd H6 a7 (.lst ((seamsL m (x ++ y)).map nn))) a7 = some (.lst ((seamsL m (x ++ y)).map nn)) := upd_same
    have e47 := (same_upd (o := .lst ((seamsL m (x ++ y)).map nn)) h7) _ _ (s56 _ _ e4)
    refine ⟨iD (seamsL m (x ++ y)), iD (seamsL m (x ++ y)), dp_nn e47, dp_nn e7, sh_nn _, sh_nn _, _, rfl, ?_⟩
    rw [refl_of (sh_nn _)]
    refine iteF ?_
    have s17 := (s14.trans s56).up (o := .lst ((seamsL m (x ++ y)).map nn)) h7
    generalize (upd H6 a7 (.lst ((seamsL m (x ++ y)).map nn))) = H7 at *
    refine ⟨_, rfl, _, rfl, rfl, rfl, p, B, m, x ++ y, rfl, Mt.mono s17, O, by omega, Wxy, by omega, fun a8 H8 s8 _ e8 => ?_⟩
    have s18 := s17.trans s8
    refine ⟨_, rfl, _, rfl, p, B, m, x, rfl, Mt.mono s18, O, by omega, Wx, by omega, fun a9 H9 s9 _ e9 => ?_⟩
    have s19 := s18.trans s9
    refine ⟨_, rfl, _, rfl, p, B, m, y, rfl, Mt.mono s19, O, by omega, Wy, by omega, fun b1 H10 s10 _ e10 => ?_⟩
    have s110 := s19.trans s10
    refine ⟨a9, b1, _, _, rfl, rfl, s10 _ _ e9, e10, line_ok (by rw [List.length_map, List.length_map]; omega), fun b2 h11 => ?_⟩
    rw [← List.map_append, ← pieces_over Wx Wy hse]
    have e11 : (upd H10 b2 (.lst ((piecesL m (x ++ y)).map tx))) b2 = some (.lst ((piecesL m (x ++ y)).map tx)) := upd_same
    have e811 := (same_upd (o := .lst ((piecesL m (x ++ y)).map tx)) h11) _ _ (s10 _ _ (s9 _ _ e8))
    have hsg : SgT (x ++ y) := fun c hc => O.l.sg c (Wxy c hc)
    refine ⟨tD (piecesL m (x ++ y)), tD (piecesL m (x ++ y)), dp_tx e811, dp_tx e11, sh_tx _ (sg_pieces hsg), sh_tx _ (sg_pieces hsg), _, rfl, ?_⟩
    rw [refl_of (sh_tx _ (sg_pieces hsg))]
    refine iteF ?_
    have s111 := s110.up (o := .lst ((piecesL m (x ++ y)).map tx)) h11
    generalize (upd H10 b2 (.lst ((piecesL m (x ++ y)).map tx))) = H11 at *
    refine ⟨_, rfl, SS y, rfl, zy, _, _, rfl, rfl, _, rfl, by rw [ss_len]; omega, by rw [ss_len]; omega, ?_⟩
    refine for_it walk_range (fun i σ H' => Same H H' ∧ ∃ z5, σ = [some (.ref p), some (tx x), some (tx y), some (nn x.length), some (tx (x ++ y)), z5, some (.ref a3)]) ⟨s111, none, rfl⟩ (fun _ _ _ _ _ => trivial) ?_ ?_
    · rintro i v σ H12 H13 hi ⟨s12', z5, rfl⟩ ⟨rfl, hv⟩
      have hi' : i ≤ y.length := by rw [ss_len] at hi; omega
      have hv2 : v = nn i := hv.trans (congrArg V.int (by omega))
      subst hv2
      refine ⟨_, rfl, _, rfl, _, rfl, _, rfl, _, _, rfl, rfl, p, B, x.length + i, m, x ++ y, rfl, Mt.mono s12', O, by omega, Wxy, by omega, hBxy, by omega, fun r H14 s14' n14 _ => ?_⟩
      refine ⟨_, rfl, _, rfl, _, rfl, p, B, i, m, y, rfl, Mt.mono (s12'.trans s14'), O, by omega, Wy, hi', hBy, by omega, fun r' H15 s15' n15 _ => ?_⟩
      rw [take_over] at n14
      have er := noseam_over Wx hse (Wy.take i) n14 n15
      subst er
      refine ⟨scal_opt r, _, rfl, ?_⟩
      rw [decide_eq_true rfl]
      exact iteF ⟨(s12'.trans s14').trans s15', _, rfl⟩
    · rintro σ H12 ⟨s12', z5, rfl⟩
      exact q H12 s12'
end
end K70
namespace K70
open PySem PySem.Spec PyProof.Rows L2
theorem row_len {B : Nat} {m : M} (O : MOk B m) {z : Tx} (W : Wd m.letters z) : (m.row z).length ≤ B + (B * z.length + B) := by
  have wl := O.r.walk_len z 0 O.r.pos W
  have fl := O.fl
  have kl := O.r.walk_lt z 0 O.r.pos W
  have el := (O.r.room_at kl).2.1
  unfold M.row rowF
  rw [List.length_append, List.length_append]
  omega
section
variable {P : Program} {w : World} {K : PySem.W.Frag} {mg : Str → Option Value} {base : Heap} {C f : Addr} {fd : FuncData}
abbrev sJoin : Stmt := top 51
abbrev nJoin : List Str := ["_law_reader", "_law_made_here", "_law_left", "_law_right", "_law_cut", "_law_both", "_law_told", "_law_shown", "_law_nr"]
theorem scJoin : FnScope nJoin ["_law_reader", "_law_made_here", "_law_left", "_law_right"] (defScope sJoin) := ⟨rfl, rfl, rfl, by decide +kernel, rfl, by decide +kernel, by decide +kernel⟩
def spJoin (C : Addr) : Sp := fun vs H Q _ => ∃ (p t B : Nat) (m L : M) (x y : Tx), vs = [.ref p, .ref t, tx x, tx y] ∧ MAt C H p L ∧ MOk B L ∧ B ≤ 100 ∧ MadeAt H t m ∧ MOk 2 m ∧ L.rooms.length ≤ 12 ∧ SameRows m L ∧ Wd m.letters x ∧ Wd m.letters y ∧ x.length ≤ 100 ∧ y.length ≤ 100 ∧ ∀ H', Same H H' → Q (.bl true) H'
theorem ok_join (F : FnP K "_law_joined_right" "_law_joined_right" sJoin f fd) (T : Txt K mg C) (cS : Cal P w K mg base 8 "seams" (spSeams C) []) (cSk : CalK P w K mg base 8 "seams" 0 ["word", "machine"] (spSeams C) gRev) (cN : Cal P w K mg base 6 "no_seam" (spNoSeam C) []) (cNk : CalK P w K mg base 6 "no_seam" 0 ["k", "word", "machine"] (spNoSeam C) gRev)
    (cR : Cal P w K mg base 2 "_law_row" spLRow []) (cB : Cal P w K mg base 10 "_law_behind_right" (spBeh C) []) : FnOk P w K mg base CX0 11 f fd ["_law_reader", "_law_made_here", "_law_left", "_law_right"] (spJoin C) := by
  refine okD F scJoin (fun vs H Q E h => ?_) (fun cdv A outer s H vs Q E hr h => ?_)
  · obtain ⟨p, t, B, m, L, x, y, rfl, _⟩ := h
    rfl
  · obtain ⟨p, t, B, m, L, x, y, rfl, Mt, O, hB, Md, Om, hn, SR, Wx, Wy, hx, hy, q⟩ := h
    refine ⟨_, pss_cons (ps_asg (pe_tup (pa_cons (pe_callB call_len_str (by rfl) T.len PySem.boot_len (pa_cons (pv 2) pa_nil)) (pa_cons (pe_op op_add_str (pv 2) (pv 3)) pa_nil))) (pg_tup rfl (pgs_cons (pg_name (i := 4) scJoin.nd rfl (.inr rfl)) (pgs_cons (pg_name (i := 5) scJoin.nd rfl (.inl rfl)) pgs_nil))))
      (pss_cons (ps_set (i := 6) scJoin.nd rfl (.inl rfl) (ca cS hr (by decide) (by rfl) (pa_cons (pv 0) (pa_cons (pv 2) pa_nil))))
      (pss_cons (ps_if (pt_cmpR (op_neD hr.units) (pe_lc (own := [("_law_nr", 8)]) (g := gName 8) rfl scJoin.nd (pi_list (caK0 cSk hr (by decide) (by rfl) (pk_cons (pv 5) (pk_cons (pv 0) pk_nil)))) (blkOk_by (N := nJoin) (sc := defScope sJoin) (by decide +kernel))
        (fun _ _ _ _ _ => pg_name (i := 8) scJoin.nd rfl (Or.inl rfl)) (fun _ _ _ _ _ => pts_one (pt_cmpR op_le (pv 8) (pv 4) (nomark _))) (fun _ _ _ _ _ => pv 8)) (pv 6) (nomark _)) (pss_one ps_never) pss_nil)
      (pss_cons (ps_set (i := 7) scJoin.nd rfl (.inl rfl) (ca cN hr (by decide) (by rfl) (pa_cons (pv 0) (pa_cons (pv 2) (pa_cons (pv 4) pa_nil)))))
      (pss_cons (ps_if (L2.PW.pt (pw_or (pt_cmpR op_ne (caK0 cNk hr (by decide) (by rfl) (pk_cons (pv 4) (pk_cons (pv 5) (pk_cons (pv 0) pk_nil)))) (pv 7) (nomark _)) (pw_or1 (pt_cmpR op_ne (pe_cmpR op_isN (pv 7) pe_non (nomark _)) (pe_cmpR op_in_seq (pv 4) (pv 6) rfl) (nomark _))))) (pss_one ps_never) pss_nil)
      (pss_cons (ps_if (pt_cmpR op_notN (pv 7) pe_non (nomark _)) (pss_one (ps_ret (pe_cmpR op_ne (ca cR hr (by decide) (by rfl) (pa_cons (pv 1) (pa_cons (pe_op op_add_str (pv 2) (pv 7)) pa_nil))) (pe_op op_add_str (ca cR hr (by decide) (by rfl) (pa_cons (pv 1) (pa_cons (pv 2) pa_nil))) (ca cR hr (by decide) (by rfl) (pa_cons (pv 1) (pa_cons (pv 7) pa_nil)))) (nomark _)))) pss_nil)
      (pss_one (ps_ret (ca cB hr (by decide) (by rfl) (pa_cons (pv 0) (pa_cons (pv 2) (pa_cons (pv 3) pa_nil))))))))))), ?_⟩
    have zx : (SS x).length ≤ sizeLine := by rw [ss_len]; exact line_ok (by omega)
    have el : L.letters = m.letters := SR.letters
    have Lx : Wd L.letters x := by rw [el]; exact Wx
    have Ly : Wd L.letters y := by rw [el]; exact Wy
    have Lxy : Wd L.letters (x ++ y) := Lx.app Ly
    have lxy : (x ++ y).length = x.length + y.length := List.length_append
    have hBxy : B * (x ++ y).length ≤ 100000 := Nat.le_trans (Nat.mul_le_mul hB (by rw [lxy]; omega : (x ++ y).length ≤ 200)) (by decide)
    have hBx : B * x.length ≤ 100000 := Nat.le_trans (Nat.mul_le_mul hB hx) (by decide)
    have hnn : L.rooms.length * L.rooms.length ≤ 144 := Nat.mul_le_mul hn hn
    refine ⟨_, rfl, SS x, rfl, zx, _, rfl, _, rfl, _, _, rfl, rfl, by rw [ss_len, ss_len]; exact line_ok (by omega), two_ok, fun t1 h1 => ?_⟩
    rw [ss_app, ss_len]
    refine ⟨t1, _, rfl, SqT.of upd_same, rfl, _, _, rfl, _, _, rfl, rfl, ?_⟩
    have s1 := same_upd (o := .tup [nn x.length, tx (x ++ y)]) h1
    generalize (upd H t1 (.tup [nn x.length, tx (x ++ y)])) = H1 at *
    have sl1 := seams_len L x
    have sl2 := seams_len L (x ++ y)
    refine ⟨_, rfl, _, rfl, p, B, L, x, rfl, Mt.mono s1, O, by omega, Lx, by omega, fun a2 H2 s2 _ e2 => ?_⟩
    have s12 := s1.trans s2
    refine ⟨_, rfl, _, rfl, rfl, rfl, p, B, L, x ++ y, rfl, Mt.mono s12, O, by omega, Lxy, by omega, fun a3 H3 s3 _ e3 => ⟨a3, rfl, ⟨_, SqL.of e3⟩, fun a4 h4 => ?_⟩⟩
    have s13 := s12.trans s3
    refine lc_it (walk_list (a := a3) (xs := (seamsL L (x ++ y)).map nn)) (fun i H4 => Same H3 H4 ∧ H4 a4 = some (.lst ((((seamsL L (x ++ y)).take i).filter (fun n => decide (n ≤ x.length))).map nn))) ⟨same_upd h4, upd_same⟩ (fun i H4 _ h => SqL.of (h.1 _ _ e3)) ?_ ?_
    · rintro i v H4 H5 hi ⟨s4, e4⟩ ⟨rfl, ev⟩
      have hi' : i < (seamsL L (x ++ y)).length := by rw [List.length_map] at hi; exact hi
      have ei := List.getElem?_eq_getElem hi'
      rw [List.getElem?_map, ei] at ev
      cases ev
      refine ⟨rfl, _, rfl, _, rfl, _, _, rfl, rfl, _, rfl, ?_⟩
      rw [take_snoc ei, List.filter_append, List.map_append]
      generalize (seamsL L (x ++ y))[i] = c at *
      by_cases hc : c ≤ x.length
      · rw [decide_eq_true (by omega : (c : Int) ≤ (x.length : Int))]
        have : List.filter (fun n => decide (n ≤ x.length)) [c] = [c] := by simp [hc]
        rw [this]
        refine iteT ⟨_, rfl, _, e4, line_lt ?_, s4.put h4, upd_same⟩
        rw [List.length_map]
        have := List.length_filter_le (fun n => decide (n ≤ x.length)) ((seamsL L (x ++ y)).take i)
        rw [List.length_take] at this
        omega
      · rw [decide_eq_false (by omega)]
        have : List.filter (fun n => decide (n ≤ x.length)) [c] = [] := by simp [hc]
        rw [this, List.map_nil, List.append_nil]
        exact iteF ⟨s4, e4⟩
    rintro H4 ⟨s4, e4⟩
    rw [List.length_map, List.take_length, seams_below L x y] at e4
    have s14 := s13.trans s4
    have e24 := s4 _ _ (s3 _ _ e2)
    refine ⟨_, rfl, iD (seamsL L x), iD (seamsL L x), dp_nn e4, dp_nn e24, sh_nn _, sh_nn _, _, rfl, ?_⟩
    rw [refl_of (sh_nn _)]
    refine iteF ?_
    refine ⟨_, rfl, _, rfl, _, rfl, p, B, x.length, L, x, rfl, Mt.mono s14, O, by omega, Lx, Nat.le_refl _, hBx, by omega, fun r H5 s5 n5 l5 => ?_⟩
    rw [List.take_length] at n5
    have s15 := s14.trans s5
    refine ⟨_, rfl, _, rfl, _, rfl, rfl, rfl, p, B, x.length, L, x ++ y, rfl, Mt.mono s15, O, by omega, Lxy, by omega, hBxy, by omega, fun r2 H6 s6 n6 _ => ?_⟩
    have e0 : (x ++ y).take x.length = x := by
      rw [take_left (Nat.le_refl _), List.take_length]
    rw [e0] at n6
    have er : r2 = r := FirstOf.uniq n6 n5 fun _ _ => Iff.rfl
    subst er
    refine ⟨_, rfl, scal_opt _, _, rfl, ?_⟩
    rw [decide_eq_true rfl]
    refine iteF ?_
    have s16 := s15.trans s6
    have e26 := s6 _ _ (s5 _ _ e24)
    refine ⟨_, rfl, rfl, _, rfl, _, rfl, a2, _, rfl, .inl (SqL.of e26), rfl, flat_nn _, rfl, _, rfl, ?_⟩
    have hiff := n5.none_iff
    have hmem : x.length ∈ seamsL L x ↔ IsSeam L x := by
      rw [mem_seams]
      rw [List.take_length]
      exact ⟨fun h => h.2, fun h => ⟨Nat.le_refl _, h⟩⟩
    have hinv : (if false = true then !inV (nn x.length) ((seamsL L x).map nn) else inV (nn x.length) ((seamsL L x).map nn)) = decide (x.length ∈ seamsL L x) := by
      rw [if_neg (by decide)]
      exact inV_nn _ _
    rw [hinv]
    cases r2 with
    | none =>
      have hs : IsSeam L x := hiff.mp rfl
      rw [decide_eq_true (show V.bl (decide (optV none = V.non)) = V.bl (decide (x.length ∈ seamsL L x)) by rw [decide_eq_true (hmem.mpr hs)]; rfl)]
      refine iteF ⟨_, rfl, rfl, _, rfl, iteF ?_⟩
      exact ⟨_, rfl, _, rfl, _, rfl, p, B, L, x, y, rfl, Mt.mono s16, O, hB, Lx, Ly, hx, hy, hs, fun H' s' => q H' (s16.trans s')⟩
    | some z =>
      have hs : ¬ IsSeam L x := fun h => nomatch hiff.mpr h
      rw [decide_eq_true (show V.bl (decide (optV (some z) = V.non)) = V.bl (decide (x.length ∈ seamsL L x)) by rw [decide_eq_false (fun h => hs (hmem.mp h))]; rfl)]
      refine iteF ⟨_, rfl, rfl, _, rfl, iteT ?_⟩
      obtain ⟨Wz, bad, _⟩ := n5
      have Wz' : Wd m.letters z := by rw [← el]; exact Wz
      have lz : z.length ≤ 144 := by have := l5 z rfl; omega
      have rl1 := row_len Om Wx
      have rl2 := row_len Om Wz'
      refine ⟨_, rfl, _, rfl, _, rfl, _, _, rfl, rfl, by rw [ss_len, ss_len]; exact line_ok (by omega), t, x ++ z, m, by rw [ss_app]; rfl, Md.mono s16, Om, Wx.app Wz', by rw [List.length_append]; omega, fun H7 s7 => ?_⟩
      have s17 := s16.trans s7
      refine ⟨_, rfl, _, rfl, t, x, m, rfl, Md.mono s17, Om, Wx, by omega, fun H8 s8 => ?_⟩
      have s18 := s17.trans s8
      refine ⟨_, rfl, _, rfl, t, z, m, rfl, Md.mono s18, Om, Wz', by omega, fun H9 s9 => ?_⟩
      refine ⟨_, _, rfl, rfl, by rw [ss_len, ss_len]; exact line_ok (by omega), rfl, ?_⟩
      rw [ss_app]
      have hne : m.row (x ++ z) ≠ m.row x ++ m.row z := by
        rw [← SR.row _ (Wx.app Wz'), ← SR.row _ Wx, ← SR.row _ Wz']
        exact bad
      rw [tx_dec, decide_eq_false hne]
      exact q H9 (s18.trans s9)
/-! ### law -/
abbrev sLaw : Stmt := top 52
abbrev nLaw : List Str := ["_law_script", "_law_cell", "_law_well_here", "_law_made_here", "_law_reader", "_law_left", "_law_right", "_law_lean"]
theorem scLaw : FnScope nLaw ["_law_script"] (defScope sLaw) := ⟨rfl, rfl, rfl, by decide +kernel, rfl, by decide +kernel, by decide +kernel⟩
def spLaw (K : PySem.W.Frag) : Sp := fun vs H Q _ => ∃ (a : Addr) (ns : List Int), vs = [.ref a] ∧ SqL K H a (ns.map V.int) ∧ ns.length ≤ 63 ∧ ∀ H', Q (.bl true) H'
theorem same_of_but {W : Addr} {H0 H1 H2 : Hp} (s : Same H0 H1) (n : H0 W = none) (b : SameBut W H1 H2) : Same H0 H2 := fun a x e => b a x (ne_of_none e n) (s a x e)
theorem sql_mono {K : PySem.W.Frag} {H H' : Hp} {a : Addr} {xs : List V} (s : Same H H') (h : SqL K H a xs) : SqL K H' a xs := by
  rcases h with (h | ⟨o, h⟩) | h
  · exact .inl (.inl (s _ _ h))
  · exact .inl (.inr ⟨o, s _ _ h⟩)
  · exact .inr h
theorem ok_law (F : FnP K "law" "law" sLaw f fd) (T : Txt K mg C) (cW : Cal P w K mg base 1 "_law_well" spWell []) (cSe : Cal P w K mg base 4 "_law_seamy" spSeamy []) (cM : Cal P w K mg base 6 "_law_machine" (spMach C) []) (cT : Cal P w K mg base 2 "_law_text" spLText []) (cJ : Cal P w K mg base 11 "_law_joined_right" (spJoin C) [])
    (cL : Cal P w K mg base 7 "least_of" (spLeastOf C) []) (cS : Cal P w K mg base 8 "seams" (spSeams C) []) (cN : Cal P w K mg base 6 "no_seam" (spNoSeam C) []) (cQ : Cal P w K mg base 8 "seamless" (spSless C) []) (cQk : CalK P w K mg base 8 "seamless" 0 ["machine"] (spSless C) gRev) : FnOk P w K mg base CX0 12 f fd ["_law_script"] (spLaw K) := by
  refine okD F scLaw (fun vs H Q E h => ?_) (fun cdv A outer s H vs Q E hr h => ?_)
  · obtain ⟨a, ns, rfl, _⟩ := h
    rfl
  · obtain ⟨a, ns, rfl, ea, hns, q⟩ := h
    refine ⟨_, pss_cons (ps_for PassesOwn.never rfl (pi_list (pe_op op_cat (pe_lst (pa_cons pe_int (pa_cons pe_int pa_nil))) (pe_slice sl_list (pv 0) po_none (po_some pe_int)))) (pg_name (i := 1) scLaw.nd rfl (.inl rfl))
        (pss_cons (ps_set (i := 2) scLaw.nd rfl (.inl rfl) (ca cW hr (by decide) (by rfl) (pa_cons (pv 1) pa_nil)))
        (pss_cons (ps_set (i := 3) scLaw.nd rfl (.inl rfl) (ca cSe hr (by decide) (by rfl) (pa_cons (pv 2) pa_nil)))
        (pss_cons (ps_set (i := 4) scLaw.nd rfl (.inl rfl) (ca cM hr (by decide) (by rfl) (pa_cons (pv 3) pa_nil)))
        (pss_cons (ps_set (i := 5) scLaw.nd rfl (.inl rfl) (ca cT hr (by decide) (by rfl) (pa_cons (pv 2) (pa_cons (pe_ix ix_tup (pv 3) pe_int (fun _ _ => rfl)) (pa_cons pe_int pa_nil)))))
        (pss_cons (ps_set (i := 6) scLaw.nd rfl (.inl rfl) (ca cT hr (by decide) (by rfl) (pa_cons (pv 2) (pa_cons (pe_ix ix_tup (pv 3) pe_int (fun _ _ => rfl)) (pa_cons pe_int pa_nil)))))
        (pss_cons (ps_if (pt_not (pt_val (ca cJ hr (by decide) (by rfl) (pa_cons (pv 4) (pa_cons (pv 3) (pa_cons (pv 5) (pa_cons (pv 6) pa_nil))))))) (pss_one ps_never) pss_nil)
        (pss_cons (ps_set (i := 7) scLaw.nd rfl (.inl rfl) (ca cL hr (by decide) (by rfl) (pa_cons (pv 4) pa_nil)))
        (pss_cons (ps_if (pt_cmpR (op_neD hr.units) (ca cS hr (by decide) (by rfl) (pa_cons (pv 7) (pa_cons (pe_op op_add_str (pv 5) (pv 6)) pa_nil))) (ca cS hr (by decide) (by rfl) (pa_cons (pv 4) (pa_cons (pe_op op_add_str (pv 5) (pv 6)) pa_nil))) (nomark _)) (pss_one ps_never) pss_nil)
        (pss_cons (ps_if (pt_cmpR op_ne (ca cN hr (by decide) (by rfl) (pa_cons (pv 7) (pa_cons (pv 5) (pa_cons (pe_callB call_len_str (by rfl) T.len PySem.boot_len (pa_cons (pv 5) pa_nil)) pa_nil)))) (ca cN hr (by decide) (by rfl) (pa_cons (pv 4) (pa_cons (pv 5) (pa_cons (pe_callB call_len_str (by rfl) T.len PySem.boot_len (pa_cons (pv 5) pa_nil)) pa_nil)))) (nomark _)) (pss_one ps_never) pss_nil)
        (pss_one (ps_if (L2.PW.pt (pw_or (pt_not (pt_val (ca cJ hr (by decide) (by rfl) (pa_cons (pv 7) (pa_cons (pv 3) (pa_cons (pv 5) (pa_cons (pv 6) pa_nil))))))) (pw_or1 (pt_cmpR op_ne (pe_ix ix_tup (caK0 cQk hr (by decide) (by rfl) (pk_cons (pv 7) pk_nil)) pe_int (fun _ _ => rfl)) (pe_ix ix_tup (ca cQ hr (by decide) (by rfl) (pa_cons (pv 4) pa_nil)) pe_int (fun _ _ => rfl)) (nomark _))))) (pss_one ps_never) pss_nil))))))))))))
      (pss_one (ps_ret pe_bl)), ?_⟩
    refine ⟨two_ok, fun a1 h1 => ?_⟩
    have s1 := same_upd (o := .lst [V.int 7, .int 18]) h1
    refine ⟨_, rfl, _, rfl, a, ns.map V.int, rfl, sql_mono s1 ea, fun a2 h2 => ?_⟩
    have s2 := same_upd (o := .lst (cutV (ns.map V.int) none (some 4))) h2
    have hcl := cutV_length (ns.map V.int) none (some 4)
    rw [List.length_map] at hcl
    refine ⟨a1, a2, _, _, rfl, rfl, s2 _ _ upd_same, upd_same, line_ok (by show 2 + _ ≤ _; omega), fun a3 h3 => ?_⟩
    have hint : ∀ v ∈ [V.int 7, .int 18] ++ cutV (ns.map V.int) none (some 4), ∃ c : Int, v = .int c := by
      intro v hv
      rcases List.mem_append.mp hv with h | h
      · rcases List.mem_cons.mp h with h | h
        · exact ⟨7, h⟩
        · exact ⟨18, List.mem_singleton.mp h⟩
      · unfold cutV at h
        obtain ⟨c, _, hc⟩ := List.mem_map.mp (List.mem_of_mem_drop (List.mem_of_mem_take h))
        exact ⟨c, hc.symm⟩
    generalize [V.int 7, .int 18] ++ cutV (ns.map V.int) none (some 4) = xs at *
    have e3 : (upd (upd (upd H a1 (.lst [V.int 7, .int 18])) a2 (.lst (cutV (ns.map V.int) none (some 4)))) a3 (.lst xs)) a3 = some (.lst xs) := upd_same
    generalize (upd (upd (upd H a1 (.lst [V.int 7, .int 18])) a2 (.lst (cutV (ns.map V.int) none (some 4)))) a3 (.lst xs)) = H0 at *
    refine ⟨a3, rfl, ⟨xs, SqL.of e3⟩, for_it (walk_list (a := a3) (xs := xs)) (fun i σ H1 => H1 a3 = some (.lst xs) ∧ ∃ z1 z2 z3 z4 z5 z6 z7, σ = [some (.ref a), z1, z2, z3, z4, z5, z6, z7]) ⟨e3, none, none, none, none, none, none, none, rfl⟩ (fun i σ H1 _ h => SqL.of h.1) ?_ ?_⟩
    · rintro i v σ H1 H2 hi ⟨e1, z1, z2, z3, z4, z5, z6, z7, rfl⟩ ⟨rfl, ev⟩
      obtain ⟨c, rfl⟩ := hint v (List.mem_of_getElem? ev)
      refine ⟨_, rfl, c, rfl, fun W H3 s3 hW w3 => ?_⟩
      refine ⟨_, rfl, W, rfl, w3, fun t m H4 b4 w4 Md4 Om hm12 => ?_⟩
      refine ⟨_, rfl, t, m, rfl, Md4, Om, fun p H5 s5 Mp5 => ?_⟩
      have w5 := w4.mono s5
      have Md5 := Md4.mono s5
      obtain ⟨R5, et5, _⟩ := id Md5
      have l0 : 0 < m.letters.length ∧ m.letters.length ≤ 52 := ⟨Om.l.pos, by have := Om.l.le; omega⟩
      refine ⟨_, rfl, _, rfl, t, _, 0, _, rfl, rfl, SqT.of et5, rfl, W, 8, m.letters, rfl, w5, l0.1, l0.2, by decide, fun x H6 hx Wx b6 w6 => ?_⟩
      have Md6 := Md5.well b6 w5 Om
      have Mp6 := Mp5.well b6 w5 Om
      obtain ⟨R6, et6, _⟩ := id Md6
      refine ⟨_, rfl, _, rfl, t, _, 0, _, rfl, rfl, SqT.of et6, rfl, W, 8, m.letters, rfl, w6, l0.1, l0.2, by decide, fun y H7 hy Wy b7 w7 => ?_⟩
      have Md7 := Md6.well b7 w6 Om
      have Mp7 := Mp6.well b7 w6 Om
      have s37 : Same H2 H7 := same_of_but s3 hW (((b4.trans s5.but).trans b6).trans b7)
      have e7 := s37 _ _ e1
      refine ⟨_, rfl, _, rfl, _, rfl, _, rfl, p, t, 2, m, m, x, y, rfl, Mp7, Om, by decide, Md7, Om, hm12, ⟨rfl, fun _ _ => rfl⟩, Wx, Wy, by omega, by omega, fun H8 s8 => ⟨true, rfl, iteF ?_⟩⟩
      refine ⟨_, rfl, p, 2, m, rfl, Mp7.mono s8, Om, by decide, fun q2 L H9 s9 ML OL Ls => ?_⟩
      have s79 := s8.trans s9
      have Lx : Wd L.letters x := by rw [Ls.letters]; exact Wx
      have Ly : Wd L.letters y := by rw [Ls.letters]; exact Wy
      have lxy : (x ++ y).length = x.length + y.length := List.length_append
      have zx : (SS x).length ≤ sizeLine := by rw [ss_len]; exact line_ok (by omega)
      have zxy : (SS x).length + (SS y).length ≤ sizeLine := by rw [ss_len, ss_len]; exact line_ok (by omega)
      refine ⟨_, rfl, _, rfl, _, rfl, _, _, rfl, rfl, zxy, q2, 2 + 2, L, x ++ y, by rw [ss_app]; rfl, ML, OL, by decide, Lx.app Ly, by omega, fun d1 H10 s10 _ e10 => ?_⟩
      have s710 := s79.trans s10
      refine ⟨_, rfl, _, rfl, _, rfl, _, _, rfl, rfl, zxy, p, 2, m, x ++ y, by rw [ss_app]; rfl, Mp7.mono s710, Om, by decide, Wx.app Wy, by omega, fun d2 H11 s11 _ e11 => ?_⟩
      have e10' := s11 _ _ e10
      rw [Ls.same.seams (Wx.app Wy)] at e10'
      refine ⟨iD (seamsL m (x ++ y)), iD (seamsL m (x ++ y)), dp_nn e10', dp_nn e11, sh_nn _, sh_nn _, _, rfl, ?_⟩
      rw [refl_of (sh_nn _)]
      refine iteF ?_
      have s711 := s710.trans s11
      have ML11 := (ML.mono s10).mono s11
      refine ⟨_, rfl, _, rfl, _, rfl, SS x, rfl, zx, q2, 2 + 2, x.length, L, x, by rw [ss_len]; rfl, ML11, OL, by decide, Lx, Nat.le_refl _, by omega, by omega, fun r1 H12 s12 n12 _ => ?_⟩
      have s712 := s711.trans s12
      refine ⟨_, rfl, _, rfl, _, rfl, SS x, rfl, zx, p, 2, x.length, m, x, by rw [ss_len]; rfl, Mp7.mono s712, Om, by decide, Wx, Nat.le_refl _, by omega, by omega, fun r2 H13 s13 n13 _ => ?_⟩
      rw [List.take_length] at n12 n13
      have er := Ls.same.noseam Wx n13 n12
      subst er
      refine ⟨scal_opt _, _, rfl, ?_⟩
      rw [decide_eq_true rfl]
      refine iteF ?_
      have s713 := s712.trans s13
      have ML13 := (ML11.mono s12).mono s13
      refine ⟨_, rfl, _, rfl, _, rfl, _, rfl, q2, t, 2 + 2, m, L, x, y, rfl, ML13, OL, by decide, Md7.mono s713, Om, by have := Ls.len; omega, Ls.same, Wx, Wy, by omega, by omega, fun H14 s14 => ⟨true, rfl, iteF ?_⟩⟩
      have s714 := s713.trans s14
      refine ⟨_, rfl, rfl, rfl, q2, 2 + 2, L, rfl, ML13.mono s14, OL, by decide, fun t5 b5 r5 H15 s15 e15 c15 => ?_⟩
      refine ⟨t5, _, 0, _, rfl, rfl, SqT.of e15, atI_nat (j := 0) rfl, ?_⟩
      have s715 := s714.trans s15
      refine ⟨_, rfl, p, 2, m, rfl, Mp7.mono s715, Om, by decide, fun t6 b6' r6 H16 s16 e16 c16 => ?_⟩
      refine ⟨t6, _, 0, _, rfl, rfl, SqT.of e16, atI_nat (j := 0) rfl, rfl, _, rfl, ?_⟩
      have eb : b5 = b6' := by
        have h := c15.trans (Ls.same.comes.trans c16.symm)
        cases b5 <;> cases b6' <;> simp at h ⊢
      subst eb
      rw [decide_eq_true rfl]
      exact iteF ⟨(s715.trans s16) _ _ e7, _, _, _, _, _, _, _, rfl⟩
    · rintro σ H1 _
      exact q H1
end
end K70
set_option maxHeartbeats 0
namespace K70
open PySem PySem.Spec PyProof.Rows L2
/-! ### the text -/
def df (q : String) (st : Stmt) : He.DefD := ⟨(Str.ofString q, none), Str.ofString q, Str.ofString q, defArgs st, defBody st, defScope st, [], []⟩
def dm (m q : String) (st : Stmt) : He.DefD := ⟨("Machine", some (Str.ofString m)), Str.ofString m, Str.ofString q, defArgs st, defBody st, defScope st, [], []⟩
def fn : List He.DefD := [df "is_whole" (top 8), df "is_text" (top 9), df "want_letters" (top 10), { df "want_word" (top 11) with dfl := [.non] }, df "common_start" (top 12), df "is_way" (top 15), df "is_room" (top 16), df "walked" (top 18),
  df "sures_of" (top 20), df "told_early" (top 21), df "kinds_of" (top 22), df "numbered" (top 23), df "least_with" (top 24), df "least_of" (top 25), df "rests" (top 27), df "led_on" (top 28), df "ends_alike" (top 29), df "first_parting" (top 30),
  df "seam_places" (top 32), df "seams" (top 33), df "no_seam" (top 34), df "pieces" (top 35), df "far_of" (top 36), df "longest_way" (top 37), df "endless_way" (top 38), df "seamless" (top 39),
  df "_law_well" (top 41), df "_law_draw" (top 42), df "_law_signs" (top 43), df "_law_text" (top 44), df "_law_made" (top 45), df "_law_machine" (top 46), df "_law_walk" (top 47), df "_law_row" (top 48), df "_law_seamy" (top 49), df "_law_behind_right" (top 50), df "_law_joined_right" (top 51), df "law" (top 52),
  { dm "__init__" "Machine.__init__" (inClass (top 17) 0) with dfl := [.str ""] }, dm "letters" "Machine.letters" (inClass (top 17) 5), dm "rooms" "Machine.rooms" (inClass (top 17) 6), dm "first" "Machine.first" (inClass (top 17) 7), dm "told" "Machine.told" (inClass (top 17) 8), dm "row" "Machine.row" (inClass (top 17) 9)]
def fa : List He.Fa := [.glo "is_whole", .glo "is_text", .glo "want_letters", .glo "want_word", .glo "common_start", .glo "is_way", .glo "is_room", .glo "walked", .glo "sures_of", .glo "told_early", .glo "kinds_of", .glo "numbered", .glo "least_with", .glo "least_of",
  .glo "rests", .glo "led_on", .glo "ends_alike", .glo "first_parting", .glo "seam_places", .glo "seams", .glo "no_seam", .glo "pieces", .glo "far_of", .glo "longest_way", .glo "endless_way", .glo "seamless",
  .glo "_law_well", .glo "_law_draw", .glo "_law_signs", .glo "_law_text", .glo "_law_made", .glo "_law_machine", .glo "_law_walk", .glo "_law_row", .glo "_law_seamy", .glo "_law_behind_right", .glo "_law_joined_right", .glo "law",
  .glo "Machine", .str "SIGNS" "ABCDEFGHIJKLMNOPQRSTUVWXYZabcdefghijklmnopqrstuvwxyz", .int "MOST_LETTERS" 16, .int "MOST_ROOMS" 200,
  .cls "Machine", .mkr "Machine", .noat "Machine" "known", .noat "Machine" "made", .noat "Machine" "begun", .meth "Machine" "letters", .meth "Machine" "rooms", .meth "Machine" "first", .meth "Machine" "told", .meth "Machine" "row",
  .free "isinstance", .free "int", .free "bool", .free "str", .free "tuple", .free "list", .free "all", .free "len", .free "set", .free "enumerate", .free "min", .free "max", .free "range", .free "reversed", .free "zip"]
abbrev R : PySem.W.OpenRow := PySem.W.OpenLaw.row PySem.Challenge.rw_markseam_k70_whole_seams_cut_and_joined
abbrev hk : PySem.W.Hook := He.hookD 5 fa fn
def ob (s : PySem.W.SharedT) : He.AlD := He.obsDG 5 fa fn (HandSHeadRun.getT s)
theorem ob_eq (s : PySem.W.SharedT) : ob s = hk.obs s.abs := He.obsDG_eq (HandSHeadRun.getT_eq s)
def loose1 : List Str := ["SeamError", "NoWord", "NoRule", "NoPlace", "SIGNS", "MOST_LETTERS", "is_whole", "is_text", "want_letters", "want_word", "common_start", "MOST_ROOMS", "is_way", "is_room", "Machine", "walked", "sures_of", "told_early", "kinds_of", "numbered", "least_with", "least_of"]
def loose2 : List Str := ["rests", "led_on", "ends_alike", "first_parting", "seam_places", "seams", "no_seam", "pieces", "far_of", "longest_way", "endless_way", "seamless", "_law_well", "_law_draw", "_law_signs", "_law_text", "_law_made", "_law_machine", "_law_walk", "_law_row", "_law_seamy", "_law_behind_right", "_law_joined_right"]
theorem run (w : World) : HandSHeadRun.RunEq R (PySem.W.view R.prog [52]) hk ob 3000 (loose1 ++ loose2) w := by
  intro os
  kernel_rfl
end K70
set_option maxHeartbeats 4000000
namespace K70
open PySem PySem.Spec PyProof.Rows L2
section
variable {P : Program} {w : World} {K : PySem.W.Frag} {mg : Str → Option Value} {base : Heap} {x qual : Str} {params : Arguments} {body : List Stmt} {scope : Scope} {dvs : List V} {kws : List (Str × V)} {f C : Addr} {fd : FuncData} {ps : List Str} {k : Nat} {sp : Sp}
/-- a def without defaults, called by places -/
theorem calOf (F : FunD K x qual params body scope [] [] f fd) (ok : FnOk P w K mg base CX0 k f fd ps sp) {y : Str} (hm : mg y = some (.ref f))
    (h : ∀ (kV doc pm : Value) (an : Option Addr) (cdv ct : Value) (us : List Value), us.length = ps.length → bindArgs (PySem.W.fnOf x qual params body scope .none kV doc pm an cdv ct) ⟨us, []⟩ = pure (ps.zip us)) : Cal P w K mg base k y sp [] :=
  ⟨f, fd, ps, [], ok, hm, F.kp, F.bindsN h, .nil⟩
theorem metOf (F : FunD K x qual params body scope [] [] f fd) (ok : FnOk P w K mg base CX0 k f fd ps sp) {m : Str} (hc : Cls K C) (hm : Meth K C m f)
    (h : ∀ (kV doc pm : Value) (an : Option Addr) (cdv ct : Value) (us : List Value), us.length = ps.length → bindArgs (PySem.W.fnOf x qual params body scope .none kV doc pm an cdv ct) ⟨us, []⟩ = pure (ps.zip us)) : Met P w K mg base k C m sp :=
  ⟨f, fd, ps, hc, hm, ok, F.bindsN h⟩
/-- called by names alone, the last parameter first -/
theorem calKOf (F : FunD K x qual params body scope [] [] f fd) (ok : FnOk P w K mg base CX0 k f fd ps sp) {y : Str} {ks : List Str} (hm : mg y = some (.ref f))
    (h : ∀ (kV doc pm : Value) (an : Option Addr) (cdv ct : Value) (ws : List Value), ws.length = ks.length → bindArgs (PySem.W.fnOf x qual params body scope .none kV doc pm an cdv ct) ⟨[], ks.zip ws⟩ = pure (ps.zip ws.reverse)) : CalK P w K mg base k y 0 ks sp gRev := by
  refine ⟨f, fd, ps, fun _ ws => ws.reverse, ok, hm, F.kp, ⟨fun s us ws X h1 h2 => ?_, fun _ r => r.reverse⟩⟩
  obtain ⟨oc, od, dV, kV, doc, pm, an, cdv, ct, osl, rfl, lk, hcd, hD, hK⟩ := F.ex
  have hu : us = [] := List.eq_nil_of_length_eq_zero h1
  subst hu
  rcases hD with ⟨_, rfl⟩ | ⟨e, _⟩
  · exact .of_eq (h kV doc pm an cdv ct ws h2)
  · exact absurd rfl e
theorem vals_app {xs ys : List V} {us ws : List Value} (h : Vals xs us) (g : Vals ys ws) : Vals (xs ++ ys) (us ++ ws) := by
  induction h with
  | nil => exact g
  | cons r _ ih => exact .cons r ih
/-- n values by their places, the rest by names; the function has defaults -/
theorem kbnOf (F : FunD K x qual params body scope dvs [] f fd) (hd : dvs ≠ []) {n : Nat} {ks : List Str}
    (h : ∀ (T : Addr) (kV doc pm : Value) (an : Option Addr) (cdv ct : Value) (us ws its : List Value), us.length = n → ws.length = ks.length → its.length = dvs.length →
      ∃ k, bindArgs (PySem.W.fnOf x qual params body scope (.ref T) kV doc pm an cdv ct) ⟨us, ks.zip ws⟩ = seqItems? (.ref T) >>= k ∧ k (some its.toArray) = pure (ps.zip (us ++ ws))) : KBn K fd ps n ks (fun us ws => us ++ ws) gApp := by
  refine ⟨fun s us ws X h1 h2 => ?_, fun r q => vals_app r q⟩
  obtain ⟨oc, od, dV, kV, doc, pm, an, cdv, ct, osl, rfl, lk, hcd, hD, hK⟩ := F.ex
  rcases hD with ⟨e, _⟩ | ⟨_, T, o, its, m, rfl, lT, oT, rT⟩
  · exact absurd e hd
  · obtain ⟨k, e1, e2⟩ := h T kV doc pm an cdv ct us ws its h1 h2 rT.length.symm
    refine BindsTo.of_looks fun M => ?_
    rw [e1]
    exact looks_items X lT oT (.of_pure e2)
end
theorem facts {P : Program} {w : World} {K : PySem.W.Frag} {h : Heap} {mg : Str → Option Value} {f : Addr} (X : K.In h) (G : h.Ns mainGlobals mg) (hfa : mg ("law" : Str) = some (.ref f)) (c : He.SaysD fa fn K) :
    ∃ fd : FuncData, (∀ (s : Shared) (v : Value), BindsTo s fd ⟨[v], []⟩ [("_law_script", v)]) ∧ ∀ base : Heap, K.In base → base.Ns mainGlobals mg → FnOk P w K mg base CX0 12 f fd ["_law_script"] (spLaw K) := by
  obtain ⟨fd, F⟩ := c.def_ 37 rfl
  have e := hfa.symm.trans (He.glo_ok X G (c.fact 37 rfl))
  cases e
  have b := FunD.bindsA (ps := ["_law_script"]) F fun _ _ _ _ _ _ us hl => match us, hl with | [_], _ => rfl
  refine ⟨fd, fun s v => b s [v] rfl, fun base _ _ => ?_⟩
  have T : Txt K mg (He.ga K "Machine") :=
    { isi := He.free_ok X G (c.fact 52 rfl), int := He.free_ok X G (c.fact 53 rfl), bool := He.free_ok X G (c.fact 54 rfl), str := He.free_ok X G (c.fact 55 rfl), tuple := He.free_ok X G (c.fact 56 rfl), list := He.free_ok X G (c.fact 57 rfl),
      all := He.free_ok X G (c.fact 58 rfl), len := He.free_ok X G (c.fact 59 rfl), set := He.free_ok X G (c.fact 60 rfl), enu := He.free_ok X G (c.fact 61 rfl), min := He.free_ok X G (c.fact 62 rfl), max := He.free_ok X G (c.fact 63 rfl),
      range := He.free_ok X G (c.fact 64 rfl), rev := He.free_ok X G (c.fact 65 rfl), zip := He.free_ok X G (c.fact 66 rfl), sig := He.str_ok X G (c.fact 39 rfl), ml := He.int_ok X G (c.fact 40 rfl), mr := He.int_ok X G (c.fact 41 rfl),
      cl := He.cls_ok (c.fact 42 rfl), nK := He.noat_ok (c.fact 44 rfl), nM := He.noat_ok (c.fact 45 rfl), nB := He.noat_ok (c.fact 46 rfl) }
  obtain ⟨d0, F0⟩ := c.def_ 0 rfl
  have cWhole : Cal P w K mg base 1 "is_whole" spWhole [] := calOf F0 (ok_whole F0 T) (He.glo_ok X G (c.fact 0 rfl)) (fun _ _ _ _ _ _ us hl => match us, hl with | [_], _ => rfl)
  obtain ⟨d1, F1⟩ := c.def_ 1 rfl
  have cText : Cal P w K mg base 1 "is_text" spText [] := calOf F1 (ok_text F1 T) (He.glo_ok X G (c.fact 1 rfl)) (fun _ _ _ _ _ _ us hl => match us, hl with | [_], _ => rfl)
  obtain ⟨d2, F2⟩ := c.def_ 2 rfl
  have cWantL : Cal P w K mg base 2 "want_letters" spWantL [] := calOf F2 (ok_wantL F2 T cText) (He.glo_ok X G (c.fact 2 rfl)) (fun _ _ _ _ _ _ us hl => match us, hl with | [_], _ => rfl)
  obtain ⟨d3, F3⟩ := c.def_ 3 rfl
  have cWantW : CalK P w K mg base 3 "want_word" 1 ["letters"] spWantW gApp := ⟨_, d3, ["word", "letters"], fun us ws => us ++ ws, ok_wantW F3 T cWantL, He.glo_ok X G (c.fact 3 rfl), F3.kp,
    kbnOf F3 (by intro z; cases z) fun T kV doc pm an cdv ct us ws its h1 h2 h3 => match us, h1, ws, h2, its, h3 with | [_], _, [_], _, [_], _ => ⟨_, rfl, rfl⟩⟩
  obtain ⟨d4, F4⟩ := c.def_ 4 rfl
  have cComm : Cal P w K mg base 1 "common_start" spComm [] := calOf F4 (ok_comm F4 T) (He.glo_ok X G (c.fact 4 rfl)) (fun _ _ _ _ _ _ us hl => match us, hl with | [_, _], _ => rfl)
  obtain ⟨d5, F5⟩ := c.def_ 5 rfl
  have cWay : Cal P w K mg base 2 "is_way" spWay [] := calOf F5 (ok_way F5 T cWhole cText) (He.glo_ok X G (c.fact 5 rfl)) (fun _ _ _ _ _ _ us hl => match us, hl with | [_, _], _ => rfl)
  obtain ⟨d6, F6⟩ := c.def_ 6 rfl
  have cRoom : Cal P w K mg base 3 "is_room" spRoom [] := calOf F6 (ok_room F6 T cWay cText) (He.glo_ok X G (c.fact 6 rfl)) (fun _ _ _ _ _ _ us hl => match us, hl with | [_, _, _], _ => rfl)
  obtain ⟨d38, F38⟩ := c.def_ 38 rfl
  have hMk : Mk K (He.ga K "Machine") (He.ma K (He.ga K "Machine") "__init__") := He.mkr_ok (c.fact 43 rfl)
  have cMakK : MakK P w K mg base 4 "Machine" (He.ga K "Machine") 2 ["first"] (spInit (He.ga K "Machine")) gApp := ⟨_, d38, ["self", "letters", "rooms", "first"], fun us ws => us ++ ws, hMk, ok_init F38 T cWantL cRoom cText, He.glo_ok X G (c.fact 38 rfl),
    kbnOf F38 (by intro z; cases z) fun T kV doc pm an cdv ct us ws its h1 h2 h3 => match us, h1, ws, h2, its, h3 with | [_, _, _], _, [_], _, [_], _ => ⟨_, rfl, rfl⟩⟩
  have cMak : Mak P w K mg base 4 "Machine" (He.ga K "Machine") (spInit (He.ga K "Machine")) [] := by
    obtain ⟨ds, v, hb⟩ := FunD.binds1 (ps := ["self", "letters", "rooms", "first"]) F38 4 1 (by intro z; cases z) rfl fun T kV doc pm an cdv ct us its h1 h2 => match us, h1, its, h2 with | [_, _, _, _], _, [_], _ => ⟨_, rfl, rfl⟩
    exact ⟨_, d38, _, ds, hMk, ok_init F38 T cWantL cRoom cText, He.glo_ok X G (c.fact 38 rfl), hb, v⟩
  obtain ⟨d39, F39⟩ := c.def_ 39 rfl
  have cLt : Met P w K mg base 1 (He.ga K "Machine") "letters" (spLets (He.ga K "Machine")) := metOf F39 (ok_lets F39 T) T.cl (He.meth_ok (c.fact 47 rfl)) (fun _ _ _ _ _ _ us hl => match us, hl with | [_], _ => rfl)
  obtain ⟨d40, F40⟩ := c.def_ 40 rfl
  have cRm : Met P w K mg base 1 (He.ga K "Machine") "rooms" (spRooms (He.ga K "Machine")) := metOf F40 (ok_rooms F40 T) T.cl (He.meth_ok (c.fact 48 rfl)) (fun _ _ _ _ _ _ us hl => match us, hl with | [_], _ => rfl)
  obtain ⟨d41, F41⟩ := c.def_ 41 rfl
  have cFi : Met P w K mg base 1 (He.ga K "Machine") "first" (spFirst (He.ga K "Machine")) := metOf F41 (ok_first F41 T) T.cl (He.meth_ok (c.fact 49 rfl)) (fun _ _ _ _ _ _ us hl => match us, hl with | [_], _ => rfl)
  obtain ⟨d7, F7⟩ := c.def_ 7 rfl
  have cWalk : Cal P w K mg base 1 "walked" (spWalk (He.ga K "Machine")) [] := calOf F7 (ok_walk F7 T) (He.glo_ok X G (c.fact 7 rfl)) (fun _ _ _ _ _ _ us hl => match us, hl with | [_, _, _], _ => rfl)
  obtain ⟨d42, F42⟩ := c.def_ 42 rfl
  have cTold : Met P w K mg base 4 (He.ga K "Machine") "told" (spTold (He.ga K "Machine")) := metOf F42 (ok_told F42 T cWantW cWalk) T.cl (He.meth_ok (c.fact 50 rfl)) (fun _ _ _ _ _ _ us hl => match us, hl with | [_, _], _ => rfl)
  obtain ⟨d43, F43⟩ := c.def_ 43 rfl
  have cRow : Met P w K mg base 5 (He.ga K "Machine") "row" (spRow (He.ga K "Machine")) := metOf F43 (ok_row F43 T cTold) T.cl (He.meth_ok (c.fact 51 rfl)) (fun _ _ _ _ _ _ us hl => match us, hl with | [_, _], _ => rfl)
  obtain ⟨d8, F8⟩ := c.def_ 8 rfl
  have cSures : Cal P w K mg base 2 "sures_of" spSures [] := calOf F8 (ok_sures F8 T cComm) (He.glo_ok X G (c.fact 8 rfl)) (fun _ _ _ _ _ _ us hl => match us, hl with | [_], _ => rfl)
  obtain ⟨d9, F9⟩ := c.def_ 9 rfl
  have cEarly : Cal P w K mg base 1 "told_early" spEarly [] := calOf F9 (ok_early F9 T) (He.glo_ok X G (c.fact 9 rfl)) (fun _ _ _ _ _ _ us hl => match us, hl with | [_, _], _ => rfl)
  obtain ⟨d10, F10⟩ := c.def_ 10 rfl
  have cKinds : Cal P w K mg base 1 "kinds_of" spKinds [] := calOf F10 (ok_kinds F10 T) (He.glo_ok X G (c.fact 10 rfl)) (fun _ _ _ _ _ _ us hl => match us, hl with | [_], _ => rfl)
  obtain ⟨d11, F11⟩ := c.def_ 11 rfl
  have cNum : Cal P w K mg base 1 "numbered" spNum [] := calOf F11 (ok_num F11 T) (He.glo_ok X G (c.fact 11 rfl)) (fun _ _ _ _ _ _ us hl => match us, hl with | [_, _], _ => rfl)
  obtain ⟨d12, F12⟩ := c.def_ 12 rfl
  have cLeast : Cal P w K mg base 6 "least_with" (spLeast (He.ga K "Machine")) [] := calOf F12 (ok_least F12 T cRm cLt cFi cSures cEarly cKinds cNum cMakK) (He.glo_ok X G (c.fact 12 rfl)) (fun _ _ _ _ _ _ us hl => match us, hl with | [_], _ => rfl)
  obtain ⟨d13, F13⟩ := c.def_ 13 rfl
  have cLeastOf : Cal P w K mg base 7 "least_of" (spLeastOf (He.ga K "Machine")) [] := calOf F13 (ok_leastOf F13 T cLeast) (He.glo_ok X G (c.fact 13 rfl)) (fun _ _ _ _ _ _ us hl => match us, hl with | [_], _ => rfl)
  obtain ⟨d14, F14⟩ := c.def_ 14 rfl
  have cRests : Cal P w K mg base 2 "rests" spRests [] := calOf F14 (ok_rests F14 T cComm) (He.glo_ok X G (c.fact 14 rfl)) (fun _ _ _ _ _ _ us hl => match us, hl with | [_, _], _ => rfl)
  obtain ⟨d15, F15⟩ := c.def_ 15 rfl
  have cLed : Cal P w K mg base 3 "led_on" (spLed (He.ga K "Machine")) [] := calOf F15 (ok_led F15 T cRests) (He.glo_ok X G (c.fact 15 rfl)) (fun _ _ _ _ _ _ us hl => match us, hl with | [_, _, _], _ => rfl)
  obtain ⟨d16, F16⟩ := c.def_ 16 rfl
  have cAlike : Cal P w K mg base 1 "ends_alike" (spAlike (He.ga K "Machine")) [] := calOf F16 (ok_alike F16 T) (He.glo_ok X G (c.fact 16 rfl)) (fun _ _ _ _ _ _ us hl => match us, hl with | [_, _, _], _ => rfl)
  obtain ⟨d17, F17⟩ := c.def_ 17 rfl
  have cPart : Cal P w K mg base 4 "first_parting" (spPart (He.ga K "Machine")) [] := calOf F17 (ok_part F17 T cAlike cLed cLt) (He.glo_ok X G (c.fact 17 rfl)) (fun _ _ _ _ _ _ us hl => match us, hl with | [_, _, _], _ => rfl)
  obtain ⟨d18, F18⟩ := c.def_ 18 rfl
  have cPlaces : Cal P w K mg base 6 "seam_places" (spPlaces (He.ga K "Machine")) [] := calOf F18 (ok_places F18 T cRow cWalk) (He.glo_ok X G (c.fact 18 rfl)) (fun _ _ _ _ _ _ us hl => match us, hl with | [_, _], _ => rfl)
  obtain ⟨d19, F19⟩ := c.def_ 19 rfl
  have cSeams : Cal P w K mg base 8 "seams" (spSeams (He.ga K "Machine")) [] := calOf F19 (ok_seams F19 T cWantW cLt cLeastOf cPlaces) (He.glo_ok X G (c.fact 19 rfl)) (fun _ _ _ _ _ _ us hl => match us, hl with | [_, _], _ => rfl)
  have cSeamsK : CalK P w K mg base 8 "seams" 0 ["word", "machine"] (spSeams (He.ga K "Machine")) gRev := calKOf F19 (ok_seams F19 T cWantW cLt cLeastOf cPlaces) (He.glo_ok X G (c.fact 19 rfl)) (fun _ _ _ _ _ _ ws hl => match ws, hl with | [_, _], _ => rfl)
  obtain ⟨d20, F20⟩ := c.def_ 20 rfl
  have cNo : Cal P w K mg base 6 "no_seam" (spNoSeam (He.ga K "Machine")) [] := calOf F20 (ok_noSeam F20 T cWantW cLt cFi cTold cRow cWhole cRests cPart) (He.glo_ok X G (c.fact 20 rfl)) (fun _ _ _ _ _ _ us hl => match us, hl with | [_, _, _], _ => rfl)
  have cNoK : CalK P w K mg base 6 "no_seam" 0 ["k", "word", "machine"] (spNoSeam (He.ga K "Machine")) gRev := calKOf F20 (ok_noSeam F20 T cWantW cLt cFi cTold cRow cWhole cRests cPart) (He.glo_ok X G (c.fact 20 rfl)) (fun _ _ _ _ _ _ ws hl => match ws, hl with | [_, _, _], _ => rfl)
  obtain ⟨d21, F21⟩ := c.def_ 21 rfl
  have cPieces : Cal P w K mg base 9 "pieces" (spPieces (He.ga K "Machine")) [] := calOf F21 (ok_pieces F21 T cSeams) (He.glo_ok X G (c.fact 21 rfl)) (fun _ _ _ _ _ _ us hl => match us, hl with | [_, _], _ => rfl)
  have cPiecesK : CalK P w K mg base 9 "pieces" 0 ["word", "machine"] (spPieces (He.ga K "Machine")) gRev := calKOf F21 (ok_pieces F21 T cSeams) (He.glo_ok X G (c.fact 21 rfl)) (fun _ _ _ _ _ _ ws hl => match ws, hl with | [_, _], _ => rfl)
  obtain ⟨d22, F22⟩ := c.def_ 22 rfl
  have cFar : Cal P w K mg base 1 "far_of" spFar [] := calOf F22 (ok_far F22 T) (He.glo_ok X G (c.fact 22 rfl)) (fun _ _ _ _ _ _ us hl => match us, hl with | [_, _], _ => rfl)
  obtain ⟨d23, F23⟩ := c.def_ 23 rfl
  have cLong : Cal P w K mg base 2 "longest_way" (spLong (He.ga K "Machine")) [] := calOf F23 (ok_long F23 T cLt) (He.glo_ok X G (c.fact 23 rfl)) (fun _ _ _ _ _ _ us hl => match us, hl with | [_, _, _], _ => rfl)
  obtain ⟨d24, F24⟩ := c.def_ 24 rfl
  have cEndl : Cal P w K mg base 2 "endless_way" (spEndl (He.ga K "Machine")) [] := calOf F24 (ok_endl F24 T cLt) (He.glo_ok X G (c.fact 24 rfl)) (fun _ _ _ _ _ _ us hl => match us, hl with | [_, _, _], _ => rfl)
  obtain ⟨d25, F25⟩ := c.def_ 25 rfl
  have cSless : Cal P w K mg base 8 "seamless" (spSless (He.ga K "Machine")) [] := calOf F25 (ok_sless F25 T cLeastOf cRow cRm cFar cLong cEndl) (He.glo_ok X G (c.fact 25 rfl)) (fun _ _ _ _ _ _ us hl => match us, hl with | [_], _ => rfl)
  have cSlessK : CalK P w K mg base 8 "seamless" 0 ["machine"] (spSless (He.ga K "Machine")) gRev := calKOf F25 (ok_sless F25 T cLeastOf cRow cRm cFar cLong cEndl) (He.glo_ok X G (c.fact 25 rfl)) (fun _ _ _ _ _ _ ws hl => match ws, hl with | [_], _ => rfl)
  obtain ⟨d26, F26⟩ := c.def_ 26 rfl
  have cWell : Cal P w K mg base 1 "_law_well" spWell [] := calOf F26 (ok_well F26 T) (He.glo_ok X G (c.fact 26 rfl)) (fun _ _ _ _ _ _ us hl => match us, hl with | [_], _ => rfl)
  obtain ⟨d27, F27⟩ := c.def_ 27 rfl
  have cDraw : Cal P w K mg base 1 "_law_draw" spDraw [] := calOf F27 (ok_draw F27 T) (He.glo_ok X G (c.fact 27 rfl)) (fun _ _ _ _ _ _ us hl => match us, hl with | [_, _], _ => rfl)
  obtain ⟨d28, F28⟩ := c.def_ 28 rfl
  have cSigns : Cal P w K mg base 2 "_law_signs" spSigns [] := calOf F28 (ok_signs F28 T cDraw) (He.glo_ok X G (c.fact 28 rfl)) (fun _ _ _ _ _ _ us hl => match us, hl with | [_, _], _ => rfl)
  obtain ⟨d29, F29⟩ := c.def_ 29 rfl
  have cLText : Cal P w K mg base 2 "_law_text" spLText [] := calOf F29 (ok_ltext F29 T cDraw) (He.glo_ok X G (c.fact 29 rfl)) (fun _ _ _ _ _ _ us hl => match us, hl with | [_, _, _], _ => rfl)
  obtain ⟨d30, F30⟩ := c.def_ 30 rfl
  have cMade : Cal P w K mg base 3 "_law_made" spMade [] := calOf F30 (ok_made F30 T cDraw cSigns cLText) (He.glo_ok X G (c.fact 30 rfl)) (fun _ _ _ _ _ _ us hl => match us, hl with | [_], _ => rfl)
  obtain ⟨d31, F31⟩ := c.def_ 31 rfl
  have cMach : Cal P w K mg base 6 "_law_machine" (spMach (He.ga K "Machine")) [] := calOf F31 (ok_mach F31 T cMak) (He.glo_ok X G (c.fact 31 rfl)) (fun _ _ _ _ _ _ us hl => match us, hl with | [_], _ => rfl)
  obtain ⟨d32, F32⟩ := c.def_ 32 rfl
  have cLWalk : Cal P w K mg base 1 "_law_walk" spLWalk [] := calOf F32 (ok_lwalk F32 T) (He.glo_ok X G (c.fact 32 rfl)) (fun _ _ _ _ _ _ us hl => match us, hl with | [_, _], _ => rfl)
  obtain ⟨d33, F33⟩ := c.def_ 33 rfl
  have cLRow : Cal P w K mg base 2 "_law_row" spLRow [] := calOf F33 (ok_lrow F33 T cLWalk) (He.glo_ok X G (c.fact 33 rfl)) (fun _ _ _ _ _ _ us hl => match us, hl with | [_, _], _ => rfl)
  obtain ⟨d34, F34⟩ := c.def_ 34 rfl
  have cSeamy : Cal P w K mg base 4 "_law_seamy" spSeamy [] := calOf F34 (ok_seamy F34 T cDraw cMade) (He.glo_ok X G (c.fact 34 rfl)) (fun _ _ _ _ _ _ us hl => match us, hl with | [_], _ => rfl)
  obtain ⟨d35, F35⟩ := c.def_ 35 rfl
  have cBeh : Cal P w K mg base 10 "_law_behind_right" (spBeh (He.ga K "Machine")) [] := calOf F35 (ok_beh F35 T cSeams cPieces cPiecesK cNo) (He.glo_ok X G (c.fact 35 rfl)) (fun _ _ _ _ _ _ us hl => match us, hl with | [_, _, _], _ => rfl)
  obtain ⟨d36, F36⟩ := c.def_ 36 rfl
  have cJoin : Cal P w K mg base 11 "_law_joined_right" (spJoin (He.ga K "Machine")) [] := calOf F36 (ok_join F36 T cSeams cSeamsK cNo cNoK cLRow cBeh) (He.glo_ok X G (c.fact 36 rfl)) (fun _ _ _ _ _ _ us hl => match us, hl with | [_, _, _, _], _ => rfl)
  exact ok_law F T cWell cSeamy cMach cLText cJoin cLeastOf cSeams cNo cSless cSlessK
end K70
set_option maxHeartbeats 0
open PySem PySem.W PySem.Calls PyProof.Rows
theorem PySem.Challenge.cw_markseam_k70_whole_seams_cut_and_joined_holds : PySem.Challenge.rw_markseam_k70_whole_seams_cut_and_joined.Holds := by
  w_on; o_law
  refine HandSHeadRun.head_any (r := OpenLaw.row PySem.Challenge.rw_markseam_k70_whole_seams_cut_and_joined) (q := view (OpenLaw.row PySem.Challenge.rw_markseam_k70_whole_seams_cut_and_joined).prog [52]) (H := K70.hk) (ob := K70.ob) (M := 3000) (loose := K70.loose1 ++ K70.loose2) (d := HandSHeadRun.topDef (OpenLaw.row PySem.Challenge.rw_markseam_k70_whole_seams_cut_and_joined).prog 52) (kwd := []) K70.ob_eq
    (by kernel_rfl) (fun s => by kernel_rfl) K70.run (by kernel_rfl) (by kernel_rfl) (by kernel_rfl) (by rfl) (by first | assumption | decide +kernel) (by decide +kernel) ⟨rfl, rfl, rfl, rfl, rfl, by decide +kernel⟩ ?hw ?hc
  case hw => w_witness2
  case hc =>
    refine L2.walk_ofE (l := PySem.Challenge.rw_markseam_k70_whole_seams_cut_and_joined) (n := 63) (k := 12) (x := "_law_script") (CX := L2.CX0) rfl (by decide) (by kernel_rfl) ⟨rfl, by decide, by decide⟩ ?F (fun _ _ _ _ z => z)
    intro w mg fa h Y G hmg0
    obtain ⟨K, KX, c⟩ := Y
    have hmg : mg ("law" : PySem.Str) = some (.ref fa) := by
      have e : (HandSHeadRun.topDef (OpenLaw.row PySem.Challenge.rw_markseam_k70_whole_seams_cut_and_joined).prog 52).name = ("law" : PySem.Str) := by kernel_rfl
      rw [← e]
      exact hmg0
    obtain ⟨fd, hb, hF⟩ := K70.facts (P := (PySem.Challenge.rw_markseam_k70_whole_seams_cut_and_joined).prog) (w := w) KX G hmg c
    exact ⟨K, fd, K70.spLaw K, KX, hb, fun H a ns hl _ hS => ⟨a, ns, rfl, hS, by simpa using hl, fun _ => rfl⟩, hF⟩
