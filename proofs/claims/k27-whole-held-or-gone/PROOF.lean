import PyProof.Rows.All
import Wide.All
import OpenK.AllK
import Wide.FinOn
import HandS.ForMost
import HandS.IsInst
import HandS.More
import HandS.Walk
import HandS.Zip
import HandS.SetFor
import HandS.SortInts
import HandS.Conv
import HandS.DictComp
import PySem.Challenge.RW_snakehall_k27_whole_held_or_gone
set_option Elab.async false
set_option maxRecDepth 100000
set_option maxHeartbeats 4000000
namespace Snk
open PySem L2

/-! ## A. the state of a hall, in plain Lean -/
structure Th where
  ad : Addr
  dx : Addr
  pd : Addr
  form : Str
  count : Int
  parts : List (Key × V)
  ended : Bool
  waits : Bool
structure Hs where
  many : Nat
  th : Nat → Th
  there : List Nat
  left : List Nat
  row : Option (Addr × List Nat)
  lasts : Int
  nums : List Nat
  plans : List (Nat × Addr)
def Hs.set (S : Hs) (n : Nat) (t : Th) : Hs := { S with th := fun m => if m = n then t else S.th m }
theorem set_same (S : Hs) (n : Nat) (t : Th) : (S.set n t).th n = t := if_pos rfl
theorem set_ne (S : Hs) (n : Nat) (t : Th) {m : Nat} (h : m ≠ n) : (S.set n t).th m = S.th m := if_neg h
def Hs.cn (S : Hs) (n : Nat) (c : Int) : Hs := S.set n { S.th n with count := c }
def Hs.wt (S : Hs) (n : Nat) (b : Bool) : Hs := S.set n { S.th n with waits := b }
def Hs.en (S : Hs) (n : Nat) : Hs := S.set n { S.th n with ended := true }
def Hs.pts (S : Hs) (n : Nat) (ps : List (Key × V)) : Hs := S.set n { S.th n with parts := ps }
def Hs.rl (S : Hs) : List Nat := match S.row with | some p => p.2 | none => []
def Hs.rf (S : Hs) (n : Nat) : V := .ref (S.th n).ad
def vcnt (x : V) (ps : List (Key × V)) : Nat := (ps.map (·.2)).count x
def Hs.held (S : Hs) (x : V) (T : List Nat) : Nat := (T.map fun m => vcnt x (S.th m).parts).sum
def Pln : V → Prop
  | .non => True
  | .bl _ => True
  | .int _ => True
  | .str _ => True
  | _ => False
def OkV (S : Hs) (v : V) : Prop := Pln v ∨ ∃ n, n ∈ S.there ∧ v = S.rf n
def sixK : List Key := [.inr "a", .inr "b", .inr "name", .inl 0, .inl 1, .inl 7]
def unE (Kn : Nat) (S : Hs) : Nat := ((List.range Kn).filter fun i => !(S.th (i + 1)).ended).length

structure Inv (Kn : Nat) (S : Hs) (ext : List V) (act sus : List Nat) (x : Nat) : Prop where
  nd : (S.there ++ S.left).Nodup
  mem : ∀ n, n ∈ S.there ++ S.left ↔ 1 ≤ n ∧ n ≤ S.many
  cnt : ∀ n, n ∈ S.there → (S.th n).count = ((ext.count (S.rf n) + act.count n + S.held (S.rf n) S.there : Nat) : Int)
  pv : ∀ m, m ∈ S.there → ∀ kv, kv ∈ (S.th m).parts → OkV S kv.2
  ev : ∀ v, v ∈ ext → OkV S v
  av : ∀ n, n ∈ act → n ∈ S.there
  wv : ∀ n, n ∈ S.there → ((S.th n).waits = true ↔ n ∈ sus ++ S.rl)
  wn : (sus ++ S.rl).Nodup
  wt : ∀ n, n ∈ sus ++ S.rl → n ∈ S.there
  wa : ∀ n, n ∈ act → ¬ n ∈ sus ++ S.rl
  zr : ∀ n, n ∈ S.there → (S.th n).count = 0 → n ∈ sus ++ S.rl ∨ n = x
  en : ∀ n, n ∈ S.nums ↔ (1 ≤ n ∧ n ≤ S.many ∧ (S.th n).ended = true)
  nn : S.nums.Nodup
  le : ∀ n, n ∈ S.left → n ∈ S.nums
  lp : ∀ n, n ∈ S.left → (S.th n).parts = []
  mp : ∀ n, Kn < n → n ≤ S.many → (S.th n).parts = []
  pk : ∀ n, n ∈ S.there → ((S.th n).parts.map (·.1)).Nodup ∧ ∀ k, k ∈ (S.th n).parts.map (·.1) → k ∈ sixK
  km : Kn ≤ S.many
  bud : S.many + 3 * unE Kn S ≤ 4 * Kn
  ij : ∀ n m, 1 ≤ n → n ≤ S.many → 1 ≤ m → m ≤ S.many → (S.th n).ad = (S.th m).ad → n = m

/-- what a run of the hall leaves: d things more may have been made than the lasts that it asked pay for -/
structure Mo (Kn d : Nat) (S S' : Hs) : Prop where
  many : S.many ≤ S'.many
  ad : ∀ n, n ≤ S.many → (S'.th n).ad = (S.th n).ad
  plans : S'.plans = S.plans
  u : unE Kn S' ≤ unE Kn S
  bud : S'.many + 3 * unE Kn S' ≤ S.many + 3 * unE Kn S + d
  en : ∀ n, n ≤ S.many → (S.th n).ended = true → (S'.th n).ended = true
theorem Mo.refl {Kn : Nat} (S : Hs) : Mo Kn 0 S S := ⟨Nat.le_refl _, fun _ _ => rfl, rfl, Nat.le_refl _, Nat.le_refl _, fun _ _ h => h⟩
theorem Mo.trans {Kn d e : Nat} {S S' S2 : Hs} (a : Mo Kn d S S') (b : Mo Kn e S' S2) : Mo Kn (d + e) S S2 :=
  ⟨Nat.le_trans a.many b.many, fun n h => (b.ad n (Nat.le_trans h a.many)).trans (a.ad n h), b.plans.trans a.plans, Nat.le_trans b.u a.u, by
    have h1 := a.bud
    have h2 := b.bud
    omega, fun n h e => b.en n (Nat.le_trans h a.many) (a.en n h e)⟩
theorem Mo.le {Kn d e : Nat} {S S' : Hs} (a : Mo Kn d S S') (h : d ≤ e) : Mo Kn e S S' := ⟨a.many, a.ad, a.plans, a.u, by have h1 := a.bud; omega, a.en⟩

/-! ## B. sums and counts -/
theorem sum_upd : ∀ {T : List Nat} {m : Nat} (f g : Nat → Nat), T.Nodup → m ∈ T → (∀ k, k ∈ T → k ≠ m → f k = g k) → (T.map f).sum + g m = (T.map g).sum + f m
  | [], _, _, _, _, hm, _ => nomatch hm
  | a :: r, m, f, g, nd, hm, h => by
    obtain ⟨h1, h2⟩ := List.nodup_cons.mp nd
    rw [List.map_cons, List.map_cons, List.sum_cons, List.sum_cons]
    by_cases e : a = m
    · subst e
      have q : (r.map f) = (r.map g) := List.map_congr_left fun k hk => h k (List.mem_cons_of_mem _ hk) fun z => h1 (z ▸ hk)
      rw [q]
      omega
    · have hm' : m ∈ r := (List.mem_cons.mp hm).resolve_left fun z => e z.symm
      have ih := sum_upd f g h2 hm' fun k hk => h k (List.mem_cons_of_mem _ hk)
      have e1 := h a List.mem_cons_self e
      omega
theorem sum_same {T : List Nat} {f g : Nat → Nat} (h : ∀ k, k ∈ T → f k = g k) : (T.map f).sum = (T.map g).sum := by
  rw [List.map_congr_left h]
theorem filter_ne_same : ∀ {T : List Nat} {n : Nat}, ¬ n ∈ T → T.filter (fun m => decide (m ≠ n)) = T
  | [], _, _ => rfl
  | a :: r, n, h => by
    have e : a ≠ n := fun z => h (z ▸ List.mem_cons_self)
    rw [List.filter_cons, if_pos (by simpa using e), filter_ne_same fun z => h (List.mem_cons_of_mem _ z)]
theorem sum_filter : ∀ {T : List Nat} {n : Nat} (f : Nat → Nat), T.Nodup → n ∈ T → ((T.filter fun m => decide (m ≠ n)).map f).sum + f n = (T.map f).sum
  | [], _, _, _, hm => nomatch hm
  | a :: r, n, f, nd, hm => by
    obtain ⟨h1, h2⟩ := List.nodup_cons.mp nd
    by_cases e : a = n
    · subst e
      rw [List.filter_cons, if_neg (by simp), filter_ne_same h1, List.map_cons, List.sum_cons]
      omega
    · have hm' : n ∈ r := (List.mem_cons.mp hm).resolve_left fun z => e z.symm
      have ih := sum_filter f h2 hm'
      rw [List.filter_cons, if_pos (by simpa using e), List.map_cons, List.sum_cons, List.map_cons, List.sum_cons]
      omega
theorem len_filter : ∀ {T : List Nat} {n : Nat}, T.Nodup → n ∈ T → (T.filter fun m => decide (m ≠ n)).length + 1 = T.length
  | [], _, _, hm => nomatch hm
  | a :: r, n, nd, hm => by
    obtain ⟨h1, h2⟩ := List.nodup_cons.mp nd
    by_cases e : a = n
    · subst e
      rw [List.filter_cons, if_neg (by simp), filter_ne_same h1, List.length_cons]
    · have hm' : n ∈ r := (List.mem_cons.mp hm).resolve_left fun z => e z.symm
      have ih := len_filter h2 hm'
      rw [List.filter_cons, if_pos (by simpa using e), List.length_cons, List.length_cons]
      omega
theorem sum_zero : ∀ {T : List Nat} {f : Nat → Nat}, (T.map f).sum = 0 → ∀ k, k ∈ T → f k = 0
  | [], _, _, _, hm => nomatch hm
  | a :: r, f, h, k, hm => by
    rw [List.map_cons, List.sum_cons] at h
    rcases List.mem_cons.mp hm with e | e
    · subst e; omega
    · exact sum_zero (T := r) (by omega) k e
theorem sum_pos {T : List Nat} {f : Nat → Nat} (h : 0 < (T.map f).sum) : ∃ k, k ∈ T ∧ 0 < f k := by
  apply Classical.byContradiction
  intro q
  have z : ∀ k, k ∈ T → f k = 0 := fun k hk => Nat.eq_zero_of_not_pos fun z => q ⟨k, hk, z⟩
  have e : ∀ T' : List Nat, (∀ k, k ∈ T' → f k = 0) → (T'.map f).sum = 0 := by
    intro T'
    induction T' with
    | nil => intro _; rfl
    | cons a r ih =>
      intro hz
      rw [List.map_cons, List.sum_cons, hz a List.mem_cons_self, ih fun k hk => hz k (List.mem_cons_of_mem _ hk)]
  have := e T z
  omega

theorem vcnt_nil (x : V) : vcnt x [] = 0 := rfl
theorem vcnt_cons (x : V) (p : Key × V) (r : List (Key × V)) : vcnt x (p :: r) = vcnt x r + if p.2 = x then 1 else 0 := by
  unfold vcnt
  rw [List.map_cons, List.count_cons]
  by_cases e : p.2 = x
  · simp [e]
  · simp [e]
theorem vcnt_app (x : V) (p q : List (Key × V)) : vcnt x (p ++ q) = vcnt x p + vcnt x q := by
  unfold vcnt
  rw [List.map_append, List.count_append]
theorem vcnt_mem {x : V} {ps : List (Key × V)} : 0 < vcnt x ps ↔ ∃ kv, kv ∈ ps ∧ kv.2 = x := by
  unfold vcnt
  rw [List.count_pos_iff]
  constructor
  · intro h
    obtain ⟨p, hp, e⟩ := List.mem_map.mp h
    exact ⟨p, hp, e⟩
  · rintro ⟨p, hp, e⟩
    exact List.mem_map.mpr ⟨p, hp, e⟩
theorem keys_not {ps : List (Key × V)} {k : Key} (h : ¬ k ∈ ps.map (·.1)) : valV ps k = none := by
  cases e : valV ps k with
  | none => rfl
  | some v => exact absurd (valV_in e) h
theorem vcnt_drop (x : V) : ∀ {ps : List (Key × V)} {k : Key}, (ps.map (·.1)).Nodup → vcnt x (dropK ps k) + (if valV ps k = some x then 1 else 0) = vcnt x ps
  | [], k, _ => by simp [valV_nil, dropK, vcnt_nil]
  | p :: r, k, h => by
    have h : (p.1 :: r.map (·.1)).Nodup := h
    obtain ⟨h1, h2⟩ := List.nodup_cons.mp h
    by_cases e : p.1 = k
    · subst e
      rw [dropK_pos rfl, dropK_no h1, valV_pos rfl, vcnt_cons]
      simp
    · rw [dropK_neg e, valV_neg e, vcnt_cons, vcnt_cons]
      have ih := vcnt_drop x (k := k) h2
      omega
theorem putK_old {ps : List (Key × V)} {k : Key} (v : V) (h : k ∈ ps.map (·.1)) : putK ps k v = ps.map fun kv => if kv.1 = k then (kv.1, v) else kv := by
  unfold putK
  rw [if_pos]
  obtain ⟨p, hp, e⟩ := List.mem_map.mp h
  exact List.any_eq_true.mpr ⟨p, hp, decide_eq_true e⟩
theorem put_keys_old : ∀ {ps : List (Key × V)} {k : Key} (v : V), (ps.map fun kv => if kv.1 = k then (kv.1, v) else kv).map (·.1) = ps.map (·.1)
  | [], _, _ => rfl
  | p :: r, k, v => by
    have ih := put_keys_old (ps := r) (k := k) v
    simp only [List.map_cons]
    rw [ih]
    by_cases e : p.1 = k
    · rw [if_pos e]
    · rw [if_neg e]
theorem map_ne : ∀ {ps : List (Key × V)} {k : Key} (v : V), ¬ k ∈ ps.map (·.1) → (ps.map fun kv => if kv.1 = k then (kv.1, v) else kv) = ps
  | [], _, _, _ => rfl
  | p :: r, k, v, h => by
    have e : ¬ p.1 = k := fun z => h (List.mem_map.mpr ⟨p, List.mem_cons_self, z⟩)
    rw [List.map_cons, if_neg e, map_ne v fun z => h (by rw [List.map_cons]; exact List.mem_cons_of_mem _ z)]
theorem vcnt_put (x : V) {ps : List (Key × V)} {k : Key} (v : V) (h : (ps.map (·.1)).Nodup) :
    vcnt x (putK ps k v) + (if valV ps k = some x then 1 else 0) = vcnt x ps + if v = x then 1 else 0 := by
  by_cases hk : k ∈ ps.map (·.1)
  · rw [putK_old v hk]
    revert h hk
    induction ps with
    | nil => intro _ hk; simp at hk
    | cons p r ih =>
      intro h hk
      have h : (p.1 :: r.map (·.1)).Nodup := h
      obtain ⟨h1, h2⟩ := List.nodup_cons.mp h
      by_cases e : p.1 = k
      · subst e
        rw [List.map_cons, if_pos rfl, map_ne v h1, vcnt_cons, vcnt_cons, valV_pos rfl]
        simp
        omega
      · have hk' : k ∈ r.map (·.1) := by
          rcases List.mem_cons.mp (show k ∈ p.1 :: r.map (·.1) from hk) with z | z
          · exact absurd z.symm e
          · exact z
        have q := ih h2 hk'
        rw [List.map_cons, if_neg e, vcnt_cons, vcnt_cons, valV_neg e]
        omega
  · rw [putK_new v (keys_not hk), vcnt_app, keys_not hk, vcnt_cons, vcnt_nil]
    simp
theorem put_nodup {ps : List (Key × V)} {k : Key} (v : V) (h : (ps.map (·.1)).Nodup) : ((putK ps k v).map (·.1)).Nodup := by
  by_cases hk : k ∈ ps.map (·.1)
  · rw [putK_old v hk, put_keys_old]
    exact h
  · exact nd_putK v h (keys_not hk)
theorem put_keys {ps : List (Key × V)} {k j : Key} {v : V} (h : j ∈ (putK ps k v).map (·.1)) : j ∈ ps.map (·.1) ∨ j = k := by
  by_cases hk : k ∈ ps.map (·.1)
  · rw [putK_old v hk, put_keys_old] at h
    exact .inl h
  · rw [putK_new v (keys_not hk), List.map_append] at h
    rcases List.mem_append.mp h with q | q
    · exact .inl q
    · exact .inr (List.mem_singleton.mp q)
theorem put_mem {ps : List (Key × V)} {k : Key} {v : V} {kv : Key × V} (h : kv ∈ putK ps k v) : kv ∈ ps ∨ kv.2 = v := by
  by_cases hk : k ∈ ps.map (·.1)
  · rw [putK_old v hk] at h
    obtain ⟨p, hp, e⟩ := List.mem_map.mp h
    by_cases z : p.1 = k
    · rw [if_pos z] at e
      exact .inr (by rw [← e])
    · rw [if_neg z] at e
      exact .inl (by rw [← e]; exact hp)
  · rw [putK_new v (keys_not hk)] at h
    rcases List.mem_append.mp h with q | q
    · exact .inl q
    · exact .inr (by rw [List.mem_singleton.mp q])
theorem valV_mem {ps : List (Key × V)} {k : Key} {v : V} (h : valV ps k = some v) : ∃ kv, kv ∈ ps ∧ kv.2 = v ∧ kv.1 = k := by
  unfold valV at h
  cases e : ps.find? fun kv => decide (kv.1 = k) with
  | none => rw [e] at h; cases h
  | some p =>
    rw [e] at h
    have h2 : p.2 = v := Option.some.inj h
    have h1 := List.mem_of_find?_eq_some e
    have h3 := List.find?_some e
    exact ⟨p, h1, h2, of_decide_eq_true h3⟩
theorem filter_lt {α : Type} [DecidableEq α] : ∀ {m : List α} {a : α}, a ∈ m → (m.filter fun b => decide (b ≠ a)).length + 1 ≤ m.length
  | [], _, h => nomatch h
  | b :: r, a, h => by
    by_cases e : b = a
    · rw [List.filter_cons, if_neg (by simp [e]), List.length_cons]
      have := List.length_filter_le (fun b => decide (b ≠ a)) r
      omega
    · have h' : a ∈ r := (List.mem_cons.mp h).resolve_left fun z => e z.symm
      have ih := filter_lt h'
      rw [List.filter_cons, if_pos (by simpa using e), List.length_cons, List.length_cons]
      omega
theorem nodup_len {α : Type} [DecidableEq α] : ∀ {l m : List α}, l.Nodup → (∀ k, k ∈ l → k ∈ m) → l.length ≤ m.length
  | [], _, _, _ => Nat.zero_le _
  | a :: r, m, nd, h => by
    obtain ⟨h1, h2⟩ := List.nodup_cons.mp nd
    have ha := h a List.mem_cons_self
    have q := nodup_len (m := m.filter fun b => decide (b ≠ a)) h2 fun k hk =>
      List.mem_filter.mpr ⟨h k (List.mem_cons_of_mem _ hk), by
        have : k ≠ a := by
          rintro rfl
          exact h1 hk
        simpa using this⟩
    have z := filter_lt ha
    rw [List.length_cons]
    omega
theorem nodup_len_to {l : List Nat} {n : Nat} (nd : l.Nodup) (h : ∀ k, k ∈ l → 1 ≤ k ∧ k ≤ n) : l.length ≤ n := by
  have q := nodup_len (m := (List.range (n + 1)).tail) nd fun k hk => ?_
  · rw [List.length_tail, List.length_range] at q
    omega
  · obtain ⟨a, b⟩ := h k hk
    rw [List.range_succ_eq_map, List.tail_cons]
    exact List.mem_map.mpr ⟨k - 1, List.mem_range.mpr (by omega), by omega⟩
end Snk
namespace Snk
open PySem L2
/-! ## C. the invariant under each small change -/
section
variable {S : Hs} {n m : Nat} {t : Th}
theorem th_set (S : Hs) (n m : Nat) (t : Th) : (S.set n t).th m = if m = n then t else S.th m := rfl
theorem rf_set (h : t.ad = (S.th n).ad) (m : Nat) : (S.set n t).rf m = S.rf m := by
  unfold Hs.rf
  rw [th_set]
  by_cases e : m = n
  · rw [if_pos e, h, e]
  · rw [if_neg e]
theorem held_same {S S' : Hs} {x : V} {T : List Nat} (h : ∀ k, k ∈ T → (S'.th k).parts = (S.th k).parts) : S'.held x T = S.held x T := by
  unfold Hs.held
  exact sum_same fun k hk => by rw [h k hk]
theorem parts_set (h : t.parts = (S.th n).parts) (m : Nat) : ((S.set n t).th m).parts = (S.th m).parts := by
  rw [th_set]
  by_cases e : m = n
  · rw [if_pos e, h, e]
  · rw [if_neg e]
theorem held_set (h : t.parts = (S.th n).parts) (x : V) (T : List Nat) : (S.set n t).held x T = S.held x T := held_same fun k _ => parts_set h k
theorem unE_same {Kn : Nat} {S S' : Hs} (h : ∀ k, (S'.th k).ended = (S.th k).ended) : unE Kn S' = unE Kn S := by
  unfold unE
  simp only [h]
theorem ended_set (h : t.ended = (S.th n).ended) (m : Nat) : ((S.set n t).th m).ended = (S.th m).ended := by
  rw [th_set]
  by_cases e : m = n
  · rw [if_pos e, h, e]
  · rw [if_neg e]
theorem waits_set (h : t.waits = (S.th n).waits) (m : Nat) : ((S.set n t).th m).waits = (S.th m).waits := by
  rw [th_set]
  by_cases e : m = n
  · rw [if_pos e, h, e]
  · rw [if_neg e]
theorem count_set (h : t.count = (S.th n).count) (m : Nat) : ((S.set n t).th m).count = (S.th m).count := by
  rw [th_set]
  by_cases e : m = n
  · rw [if_pos e, h, e]
  · rw [if_neg e]
theorem ad_set (h : t.ad = (S.th n).ad) (m : Nat) : ((S.set n t).th m).ad = (S.th m).ad := by
  rw [th_set]
  by_cases e : m = n
  · rw [if_pos e, h, e]
  · rw [if_neg e]
theorem okV_of {S S' : Hs} {v : V} (hT : ∀ k, k ∈ S.there → k ∈ S'.there) (hr : ∀ k, k ∈ S.there → S'.rf k = S.rf k) (h : OkV S v) : OkV S' v := by
  rcases h with h | ⟨k, hk, e⟩
  · exact .inl h
  · exact .inr ⟨k, hT k hk, by rw [hr k hk]; exact e⟩
end

section
variable {Kn : Nat} {S : Hs} {ext act sus : List _} {x n : Nat}
/-- two things that are there stand apart -/
theorem Inv.rf_inj (h : Inv Kn S ext act sus x) {m n : Nat} (hm : m ∈ S.there) (hn : n ∈ S.there) (e : S.rf m = S.rf n) : m = n := by
  obtain ⟨a, b⟩ := (h.mem m).mp (List.mem_append_left _ hm)
  obtain ⟨c, d⟩ := (h.mem n).mp (List.mem_append_left _ hn)
  exact h.ij m n a b c d (V.ref.inj e)
theorem Inv.tnd (h : Inv Kn S ext act sus x) : S.there.Nodup := (List.nodup_append.mp h.nd).1
theorem Inv.rng (h : Inv Kn S ext act sus x) {n : Nat} (hn : n ∈ S.there) : 1 ≤ n ∧ n ≤ S.many := (h.mem n).mp (List.mem_append_left _ hn)
theorem Inv.tlen (h : Inv Kn S ext act sus x) : S.there.length ≤ S.many := nodup_len_to h.tnd fun _ hk => h.rng hk
theorem Inv.rlen (h : Inv Kn S ext act sus x) : S.rl.length ≤ S.many := nodup_len_to (List.nodup_append.mp h.wn).2.1 fun k hk => h.rng (h.wt k (List.mem_append_right _ hk))
theorem Inv.nlen (h : Inv Kn S ext act sus x) : S.nums.length ≤ S.many := nodup_len_to h.nn fun k hk => let z := (h.en k).mp hk; ⟨z.1, z.2.1⟩
theorem Inv.llen (h : Inv Kn S ext act sus x) : S.left.length ≤ S.many := nodup_len_to (List.nodup_append.mp h.nd).2.1 fun k hk => (h.mem k).mp (List.mem_append_right _ hk)
theorem Inv.plen (h : Inv Kn S ext act sus x) {n : Nat} (hn : n ∈ S.there) : (S.th n).parts.length ≤ 6 := by
  obtain ⟨a, b⟩ := h.pk n hn
  have q := nodup_len a b
  rw [List.length_map] at q
  exact q
theorem Inv.many_le (h : Inv Kn S ext act sus x) : S.many ≤ 4 * Kn := by
  have := h.bud
  omega
theorem Inv.pos (h : Inv Kn S ext act sus x) {n : Nat} (hn : n ∈ S.there) : 0 ≤ (S.th n).count := by
  rw [h.cnt n hn]
  exact Int.natCast_nonneg _

/-- a count is changed with the holds outside -/
theorem inv_cn (h : Inv Kn S ext act sus x) (hn : n ∈ S.there) {c : Int} {ext' : List V} {act' : List Nat} {x' : Nat}
    (hc : c = ((ext'.count (S.rf n) + act'.count n + S.held (S.rf n) S.there : Nat) : Int))
    (ho : ∀ m, m ∈ S.there → m ≠ n → ext'.count (S.rf m) + act'.count m = ext.count (S.rf m) + act.count m)
    (hev : ∀ v, v ∈ ext' → OkV S v) (hav : ∀ m, m ∈ act' → m ∈ S.there) (hwa : ∀ m, m ∈ act' → ¬ m ∈ sus ++ S.rl)
    (hz : c = 0 → n ∈ sus ++ S.rl ∨ n = x') (hx : ∀ m, m ∈ S.there → m ≠ n → m = x → m = x') : Inv Kn (S.cn n c) ext' act' sus x' := by
  have rf' : ∀ m, (S.cn n c).rf m = S.rf m := fun m => rf_set (by rfl) m
  have held' : ∀ v, (S.cn n c).held v S.there = S.held v S.there := fun v => held_set (by rfl) v _
  have okv : ∀ v, OkV S v → OkV (S.cn n c) v := fun v => okV_of (fun _ hk => hk) fun k _ => rf' k
  have en' : ∀ m, ((S.cn n c).th m).ended = (S.th m).ended := fun m => ended_set (by rfl) m
  have ps' : ∀ m, ((S.cn n c).th m).parts = (S.th m).parts := fun m => parts_set (by rfl) m
  refine ⟨h.nd, h.mem, fun m hm => ?_, fun m hm kv hkv => ?_, fun v hv => okv v (hev v hv), hav, fun m hm => ?_, h.wn, h.wt, hwa, fun m hm hc0 => ?_, fun m => ?_, h.nn, h.le, fun m hm => ?_, fun m h1 h2 => ?_, fun m hm => ?_, h.km, ?_, fun a b h1 h2 h3 h4 e => ?_⟩
  · have hm : m ∈ S.there := hm
    show _ = ((ext'.count ((S.cn n c).rf m) + act'.count m + (S.cn n c).held ((S.cn n c).rf m) S.there : Nat) : Int)
    rw [rf', held']
    by_cases e : m = n
    · subst e
      show ((S.set m _).th m).count = _
      rw [set_same]
      exact hc
    · show ((S.set n _).th m).count = _
      rw [set_ne _ _ _ e, h.cnt m hm, ho m hm e]
  · rw [ps'] at hkv
    exact okv _ (h.pv m hm kv hkv)
  · rw [show ((S.cn n c).th m).waits = (S.th m).waits from waits_set (by rfl) m]
    exact h.wv m hm
  · by_cases e : m = n
    · subst e
      have e2 : ((S.cn m c).th m).count = c := by
        show ((S.set m _).th m).count = _
        rw [set_same]
      rw [e2] at hc0
      exact hz hc0
    · have e2 : ((S.cn n c).th m).count = (S.th m).count := by
        show ((S.set n _).th m).count = _
        rw [set_ne _ _ _ e]
      rw [e2] at hc0
      rcases h.zr m hm hc0 with z | z
      · exact .inl z
      · exact .inr (hx m hm e z)
  · rw [en']
    exact h.en m
  · rw [ps']
    exact h.lp m hm
  · rw [ps']
    exact h.mp m h1 h2
  · rw [ps']
    exact h.pk m hm
  · rw [unE_same en']
    exact h.bud
  · rw [show ((S.cn n c).th a).ad = (S.th a).ad from ad_set (by rfl) a, show ((S.cn n c).th b).ad = (S.th b).ad from ad_set (by rfl) b] at e
    exact h.ij a b h1 h2 h3 h4 e

/-- M1: one hold more, by the outside -/
theorem inv_hold (h : Inv Kn S ext act sus x) (hn : n ∈ S.there) (x' : Nat) (hx : x = x' ∨ x = n) : Inv Kn (S.cn n ((S.th n).count + 1)) (S.rf n :: ext) act sus x' := by
  refine inv_cn h hn ?_ (fun m hm e => ?_) (fun v hv => ?_) h.av h.wa (fun hc => ?_) fun m hm e z => ?_
  · rw [h.cnt n hn, List.count_cons_self]
    omega
  · rw [List.count_cons_of_ne fun z => e (h.rf_inj hm hn z.symm)]
  · rcases List.mem_cons.mp hv with z | z
    · exact .inr ⟨n, hn, z⟩
    · exact h.ev v z
  · have := h.pos hn
    omega
  · rcases hx with q | q
    · exact z.trans q
    · exact absurd (z.trans q) e
theorem inv_plain (h : Inv Kn S ext act sus x) {v : V} (hv : Pln v) : Inv Kn S (v :: ext) act sus x := by
  refine ⟨h.nd, h.mem, fun m hm => ?_, h.pv, fun u hu => ?_, h.av, h.wv, h.wn, h.wt, h.wa, h.zr, h.en, h.nn, h.le, h.lp, h.mp, h.pk, h.km, h.bud, h.ij⟩
  · have e : v ≠ S.rf m := fun e => by rw [e] at hv; exact hv
    rw [List.count_cons_of_ne e]
    exact h.cnt m hm
  · rcases List.mem_cons.mp hu with z | z
    · rw [z]; exact .inl hv
    · exact h.ev u z
theorem inv_unplain {v : V} (h : Inv Kn S (v :: ext) act sus x) (hv : Pln v) : Inv Kn S ext act sus x := by
  refine ⟨h.nd, h.mem, fun m hm => ?_, h.pv, fun u hu => h.ev u (List.mem_cons_of_mem _ hu), h.av, h.wv, h.wn, h.wt, h.wa, h.zr, h.en, h.nn, h.le, h.lp, h.mp, h.pk, h.km, h.bud, h.ij⟩
  have e : v ≠ S.rf m := fun e => by rw [e] at hv; exact hv
  have q := h.cnt m hm
  rw [List.count_cons_of_ne e] at q
  exact q
/-- M2: one hold less -/
theorem inv_dec (h : Inv Kn S (S.rf n :: ext) act sus 0) (hn : n ∈ S.there) : Inv Kn (S.cn n ((S.th n).count - 1)) ext act sus (if (S.th n).count - 1 = 0 then n else 0) := by
  refine inv_cn h hn ?_ (fun m hm e => ?_) (fun v hv => h.ev v (List.mem_cons_of_mem _ hv)) h.av h.wa (fun hc => .inr (by rw [if_pos hc])) fun m hm e z => ?_
  · rw [h.cnt n hn, List.count_cons_self]
    omega
  · rw [List.count_cons_of_ne fun z => e (h.rf_inj hm hn z.symm)]
  · have := (h.rng hm).1
    omega
/-- M7: a turn holds its thing -/
theorem inv_push (h : Inv Kn S ext act sus n) (hn : n ∈ S.there) (hw : ¬ n ∈ sus ++ S.rl) : Inv Kn (S.cn n ((S.th n).count + 1)) ext (n :: act) sus 0 := by
  refine inv_cn h hn ?_ (fun m hm e => ?_) h.ev (fun m hm => ?_) (fun m hm => ?_) (fun hc => ?_) fun m hm e z => ?_
  · rw [h.cnt n hn, List.count_cons_self]
    omega
  · rw [List.count_cons_of_ne fun z => e z.symm]
  · rcases List.mem_cons.mp hm with z | z
    · rw [z]; exact hn
    · exact h.av m z
  · rcases List.mem_cons.mp hm with z | z
    · rw [z]; exact hw
    · exact h.wa m z
  · have := h.pos hn
    omega
  · exact absurd z e
/-- M10: and looses it -/
theorem inv_pop (h : Inv Kn S ext (n :: act) sus 0) : Inv Kn (S.cn n ((S.th n).count - 1)) ext act sus (if (S.th n).count - 1 = 0 then n else 0) := by
  have hn : n ∈ S.there := h.av n List.mem_cons_self
  refine inv_cn h hn ?_ (fun m hm e => ?_) h.ev (fun m hm => h.av m (List.mem_cons_of_mem _ hm)) (fun m hm => h.wa m (List.mem_cons_of_mem _ hm)) (fun hc => .inr (by rw [if_pos hc])) fun m hm e z => ?_
  · rw [h.cnt n hn, List.count_cons_self]
    omega
  · rw [List.count_cons_of_ne fun z => e z.symm]
  · have := (h.rng hm).1
    omega
/-- nothing has come to 0 -/
theorem inv_exc (h : Inv Kn S ext act sus n) (hc : (S.th n).count ≠ 0 ∨ n ∈ sus ++ S.rl ∨ ¬ n ∈ S.there) : Inv Kn S ext act sus 0 := by
  refine ⟨h.nd, h.mem, h.cnt, h.pv, h.ev, h.av, h.wv, h.wn, h.wt, h.wa, fun m hm e => ?_, h.en, h.nn, h.le, h.lp, h.mp, h.pk, h.km, h.bud, h.ij⟩
  rcases h.zr m hm e with z | z
  · exact .inl z
  · subst z
    rcases hc with q | q | q
    · exact absurd e q
    · exact .inl q
    · exact absurd hm q
theorem inv_weak (h : Inv Kn S ext act sus 0) : Inv Kn S ext act sus n := by
  refine ⟨h.nd, h.mem, h.cnt, h.pv, h.ev, h.av, h.wv, h.wn, h.wt, h.wa, fun m hm e => ?_, h.en, h.nn, h.le, h.lp, h.mp, h.pk, h.km, h.bud, h.ij⟩
  rcases h.zr m hm e with z | z
  · exact .inl z
  · have := (h.rng hm).1
    omega

/-- waits and the row change together -/
theorem inv_row (h : Inv Kn S ext act sus x) {b : Bool} {row' : Option (Addr × List Nat)} {S' : Hs} (hS : S' = { S.wt n b with row := row' }) {x' : Nat}
    (hb : b = true ↔ n ∈ sus ++ S'.rl) (hm : ∀ m, m ≠ n → (m ∈ sus ++ S'.rl ↔ m ∈ sus ++ S.rl)) (hnd : (sus ++ S'.rl).Nodup) (hn : n ∈ S.there) (ha : b = true → ¬ n ∈ act)
    (hz : (S.th n).count = 0 → n ∈ sus ++ S'.rl ∨ n = x') (hx : ∀ m, m ∈ S.there → m ≠ n → m = x → m = x') : Inv Kn S' ext act sus x' := by
  have e0 : S'.th = (S.wt n b).th := by rw [hS]
  have eT : S'.there = S.there := by rw [hS]; rfl
  have eL : S'.left = S.left := by rw [hS]; rfl
  have eM : S'.many = S.many := by rw [hS]; rfl
  have eN : S'.nums = S.nums := by rw [hS]; rfl
  have ps' : ∀ m, (S'.th m).parts = (S.th m).parts := fun m => by rw [e0]; exact parts_set (by rfl) m
  have en' : ∀ m, (S'.th m).ended = (S.th m).ended := fun m => by rw [e0]; exact ended_set (by rfl) m
  have ad' : ∀ m, (S'.th m).ad = (S.th m).ad := fun m => by rw [e0]; exact ad_set (by rfl) m
  have ct' : ∀ m, (S'.th m).count = (S.th m).count := fun m => by rw [e0]; exact count_set (by rfl) m
  have rf' : ∀ m, S'.rf m = S.rf m := fun m => by unfold Hs.rf; rw [ad']
  have held' : ∀ v, S'.held v S.there = S.held v S.there := fun v => held_same fun k _ => ps' k
  have okv : ∀ v, OkV S v → OkV S' v := fun v => okV_of (fun _ hk => by rw [eT]; exact hk) fun k _ => rf' k
  refine ⟨?_, fun m => ?_, fun m hm => ?_, fun m hm kv hkv => ?_, fun v hv => okv v (h.ev v hv), fun m hm => ?_, fun m hm' => ?_, hnd, fun m hm' => ?_, fun m hm' hm2 => ?_, fun m hm' hc0 => ?_, fun m => ?_, ?_, fun m hm => ?_, fun m hm => ?_, fun m h1 h2 => ?_, fun m hm => ?_, ?_, ?_, fun a b h1 h2 h3 h4 e => ?_⟩
  · rw [eT, eL]; exact h.nd
  · rw [eT, eL, eM]; exact h.mem m
  · rw [eT] at hm ⊢
    rw [ct', rf', held']
    exact h.cnt m hm
  · rw [eT] at hm
    rw [ps'] at hkv
    exact okv _ (h.pv m hm kv hkv)
  · rw [eT]; exact h.av m hm
  · rw [eT] at hm'
    by_cases e : m = n
    · subst e
      have z : (S'.th m).waits = b := by
        rw [e0]
        show ((S.set m _).th m).waits = b
        rw [set_same]
      rw [z]
      exact hb
    · have z : (S'.th m).waits = (S.th m).waits := by
        rw [e0]
        show ((S.set n _).th m).waits = _
        rw [set_ne _ _ _ e]
      rw [z, hm m e]
      exact h.wv m hm'
  · rw [eT]
    by_cases e : m = n
    · rw [e]; exact hn
    · exact h.wt m ((hm m e).mp hm')
  · by_cases e : m = n
    · subst e
      exact ha (hb.mpr hm2) hm'
    · exact h.wa m hm' ((hm m e).mp hm2)
  · rw [eT] at hm'
    rw [ct'] at hc0
    by_cases e : m = n
    · subst e
      exact hz hc0
    · rcases h.zr m hm' hc0 with z | z
      · exact .inl ((hm m e).mpr z)
      · exact .inr (hx m hm' e z)
  · rw [eN, eM, en']; exact h.en m
  · rw [eN]; exact h.nn
  · rw [eL] at hm
    rw [eN]; exact h.le m hm
  · rw [eL] at hm
    rw [ps']; exact h.lp m hm
  · rw [eM] at h2
    rw [ps']; exact h.mp m h1 h2
  · rw [eT] at hm
    rw [ps']; exact h.pk m hm
  · rw [eM]; exact h.km
  · rw [eM, unE_same en']; exact h.bud
  · rw [eM] at h2 h4
    rw [ad', ad'] at e
    exact h.ij a b h1 h2 h3 h4 e
end
end Snk
namespace Snk
open PySem L2
section
variable {Kn : Nat} {S : Hs} {ext : List V} {act sus : List Nat} {x n : Nat}
/-- M5: a thing begins to wait -/
def Hs.lay (S : Hs) (n : Nat) (r : Addr) : Hs := { S.wt n true with row := some (r, S.rl ++ [n]) }
theorem inv_lay (h : Inv Kn S ext act sus n) (hn : n ∈ S.there) (hc : (S.th n).count = 0) (hw : (S.th n).waits = false) (r : Addr) : Inv Kn (S.lay n r) ext act sus 0 := by
  have nw : ¬ n ∈ sus ++ S.rl := fun z => by
    have := (h.wv n hn).mpr z
    rw [hw] at this
    cases this
  have na : ¬ n ∈ act := fun z => by
    have q := h.cnt n hn
    rw [hc] at q
    have := List.count_pos_iff.mpr z
    omega
  have er : (S.lay n r).rl = S.rl ++ [n] := rfl
  refine inv_row h (b := true) (row' := some (r, S.rl ++ [n])) (S' := S.lay n r) rfl ?_ (fun m e => ?_) ?_ hn (fun _ => na) (fun _ => ?_) fun m hm e z => absurd z e
  · rw [er]
    simp
  · rw [er, ← List.append_assoc]
    constructor
    · intro z
      rcases List.mem_append.mp z with q | q
      · exact q
      · exact absurd (List.mem_singleton.mp q) e
    · intro z
      exact List.mem_append_left _ z
  · rw [er, ← List.append_assoc]
    exact nd_snoc h.wn nw
  · rw [er]
    exact .inl (by simp)
/-- M6: a turn begins -/
def Hs.pop (S : Hs) (n : Nat) (r : Addr) (l : List Nat) : Hs := { S.wt n false with row := some (r, l) }
theorem inv_shift {r : Addr} {l : List Nat} (h : Inv Kn { S with row := some (r, n :: l) } ext act sus 0) : Inv Kn (S.pop n r l) ext act sus n ∧ n ∈ S.there ∧ ¬ n ∈ sus ++ l := by
  have hw := h.wn
  have e0 : ({ S with row := some (r, n :: l) } : Hs).rl = n :: l := rfl
  rw [e0] at hw
  obtain ⟨n1, n2, n3⟩ := List.nodup_append.mp hw
  obtain ⟨n4, n5⟩ := List.nodup_cons.mp n2
  have hn : n ∈ S.there := h.wt n (by rw [e0]; simp)
  have hno : ¬ n ∈ sus ++ l := fun z => by
    rcases List.mem_append.mp z with q | q
    · exact n3 n q n List.mem_cons_self rfl
    · exact n4 q
  have er : (S.pop n r l).rl = l := rfl
  refine ⟨?_, hn, hno⟩
  refine inv_row h (b := false) (n := n) (row' := some (r, l)) (S' := S.pop n r l) rfl ?_ (fun m e => ?_) ?_ hn (fun z => nomatch z) (fun _ => .inr rfl) fun m hm e z => ?_
  · rw [er]
    exact ⟨(fun z => nomatch z), fun z => absurd z hno⟩
  · rw [er, e0]
    constructor
    · intro z
      rcases List.mem_append.mp z with q | q
      · exact List.mem_append_left _ q
      · exact List.mem_append_right _ (List.mem_cons_of_mem _ q)
    · intro z
      rcases List.mem_append.mp z with q | q
      · exact List.mem_append_left _ q
      · rcases List.mem_cons.mp q with q | q
        · exact absurd q e
        · exact List.mem_append_right _ q
  · rw [er]
    refine List.nodup_append.mpr ⟨n1, n5, fun a ha b hb => n3 a ha b (List.mem_cons_of_mem _ hb)⟩
  · have := (h.rng (n := m) hm).1
    omega
/-- M9: the row is laid aside, and taken up again -/
theorem inv_aside {r : Addr} {l : List Nat} (h : Inv Kn S ext act sus x) (hr : S.row = some (r, l)) : Inv Kn { S with row := none } ext act (sus ++ l) x := by
  have e0 : S.rl = l := by unfold Hs.rl; rw [hr]
  have e1 : (sus ++ l) ++ ({ S with row := none } : Hs).rl = sus ++ S.rl := by
    rw [e0]
    show (sus ++ l) ++ [] = sus ++ l
    rw [List.append_nil]
  refine ⟨h.nd, h.mem, h.cnt, h.pv, h.ev, h.av, fun m hm => ?_, ?_, fun m hm => ?_, fun m hm => ?_, fun m hm hc => ?_, h.en, h.nn, h.le, h.lp, h.mp, h.pk, h.km, h.bud, h.ij⟩
  · rw [e1]; exact h.wv m hm
  · rw [e1]; exact h.wn
  · rw [e1] at hm; exact h.wt m hm
  · rw [e1]; exact h.wa m hm
  · rw [e1]; exact h.zr m hm hc
theorem inv_again {r : Addr} {l : List Nat} (h : Inv Kn S ext act (sus ++ l) x) (hr : S.row = none) : Inv Kn { S with row := some (r, l) } ext act sus x := by
  have e0 : S.rl = [] := by unfold Hs.rl; rw [hr]
  have e1 : sus ++ ({ S with row := some (r, l) } : Hs).rl = (sus ++ l) ++ S.rl := by
    rw [e0]
    show sus ++ l = (sus ++ l) ++ []
    rw [List.append_nil]
  refine ⟨h.nd, h.mem, h.cnt, h.pv, h.ev, h.av, fun m hm => ?_, ?_, fun m hm => ?_, fun m hm => ?_, fun m hm hc => ?_, h.en, h.nn, h.le, h.lp, h.mp, h.pk, h.km, h.bud, h.ij⟩
  · rw [e1]; exact h.wv m hm
  · rw [e1]; exact h.wn
  · rw [e1] at hm; exact h.wt m hm
  · rw [e1]; exact h.wa m hm
  · rw [e1]; exact h.zr m hm hc
/-- what the invariant doesn't look at -/
theorem inv_lasts (h : Inv Kn S ext act sus x) (z : Int) : Inv Kn { S with lasts := z } ext act sus x :=
  ⟨h.nd, h.mem, h.cnt, h.pv, h.ev, h.av, h.wv, h.wn, h.wt, h.wa, h.zr, h.en, h.nn, h.le, h.lp, h.mp, h.pk, h.km, h.bud, h.ij⟩
theorem inv_plans (h : Inv Kn S ext act sus x) (z : List (Nat × Addr)) : Inv Kn { S with plans := z } ext act sus x :=
  ⟨h.nd, h.mem, h.cnt, h.pv, h.ev, h.av, h.wv, h.wn, h.wt, h.wa, h.zr, h.en, h.nn, h.le, h.lp, h.mp, h.pk, h.km, h.bud, h.ij⟩

/-- the number of planned things whose last was not asked -/
theorem unE_en_le (Kn : Nat) (S : Hs) (n : Nat) : unE Kn (S.en n) ≤ unE Kn S := by
  unfold unE
  rw [← List.countP_eq_length_filter, ← List.countP_eq_length_filter]
  refine List.countP_mono_left fun i _ h => ?_
  have h : (!((S.en n).th (i + 1)).ended) = true := h
  by_cases e : i + 1 = n
  · exfalso
    have q : ((S.en n).th (i + 1)).ended = true := by
      rw [e]
      show ((S.set n _).th n).ended = true
      rw [set_same]
    rw [q] at h
    cases h
  · have q : ((S.en n).th (i + 1)).ended = (S.th (i + 1)).ended := by
      show ((S.set n _).th (i + 1)).ended = _
      rw [set_ne _ _ _ e]
    rw [← q]
    exact h
theorem countP_lt {α : Type} {p q : α → Bool} : ∀ {l : List α} {a : α}, a ∈ l → (∀ b, b ∈ l → p b = true → q b = true) → p a = false → q a = true → l.countP p < l.countP q
  | [], _, h, _, _, _ => nomatch h
  | b :: r, a, h, hi, h1, h2 => by
    have mono : r.countP p ≤ r.countP q := List.countP_mono_left fun c hc => hi c (List.mem_cons_of_mem _ hc)
    rw [List.countP_cons, List.countP_cons]
    rcases List.mem_cons.mp h with e | e
    · subst e
      rw [h1, h2]
      simp
      omega
    · have ih := countP_lt e (fun c hc => hi c (List.mem_cons_of_mem _ hc)) h1 h2
      have hb := hi b List.mem_cons_self
      cases hpb : p b with
      | false => simp; split <;> omega
      | true => rw [hb hpb]; simp; omega
theorem unE_en_lt (Kn : Nat) (S : Hs) (n : Nat) (h1 : 1 ≤ n) (h2 : n ≤ Kn) (he : (S.th n).ended = false) : unE Kn (S.en n) + 1 ≤ unE Kn S := by
  unfold unE
  rw [← List.countP_eq_length_filter, ← List.countP_eq_length_filter]
  have q : ((S.en n).th n).ended = true := by
    show ((S.set n _).th n).ended = true
    rw [set_same]
  refine countP_lt (a := n - 1) (List.mem_range.mpr (by omega)) (fun i _ h => ?_) ?_ ?_
  · have h : (!((S.en n).th (i + 1)).ended) = true := h
    by_cases e : i + 1 = n
    · rw [e, q] at h
      cases h
    · have q2 : ((S.en n).th (i + 1)).ended = (S.th (i + 1)).ended := by
        show ((S.set n _).th (i + 1)).ended = _
        rw [set_ne _ _ _ e]
      rw [← q2]
      exact h
  · show (!((S.en n).th (n - 1 + 1)).ended) = false
    rw [Nat.sub_add_cancel h1, q]
    rfl
  · show (!(S.th (n - 1 + 1)).ended) = true
    rw [Nat.sub_add_cancel h1, he]
    rfl
/-- M8: a last is noted -/
theorem inv_ended (h : Inv Kn S ext act sus x) (hn : n ∈ S.there) (he : (S.th n).ended = false) : Inv Kn { S.en n with nums := S.nums ++ [n] } ext act sus x := by
  have ps' : ∀ m, ((S.en n).th m).parts = (S.th m).parts := fun m => parts_set (by rfl) m
  have ad' : ∀ m, ((S.en n).th m).ad = (S.th m).ad := fun m => ad_set (by rfl) m
  have ct' : ∀ m, ((S.en n).th m).count = (S.th m).count := fun m => count_set (by rfl) m
  have wt' : ∀ m, ((S.en n).th m).waits = (S.th m).waits := fun m => waits_set (by rfl) m
  have rf' : ∀ m, (S.en n).rf m = S.rf m := fun m => by unfold Hs.rf; rw [ad']
  have held' : ∀ v, (S.en n).held v S.there = S.held v S.there := fun v => held_same fun k _ => ps' k
  have okv : ∀ v, OkV S v → OkV { S.en n with nums := S.nums ++ [n] } v := fun v => okV_of (fun _ hk => hk) fun k _ => rf' k
  have nn : ¬ n ∈ S.nums := fun z => by
    have := ((h.en n).mp z).2.2
    rw [he] at this
    cases this
  refine ⟨h.nd, h.mem, fun m hm => ?_, fun m hm kv hkv => ?_, fun v hv => okv v (h.ev v hv), h.av, fun m hm => ?_, h.wn, h.wt, h.wa, fun m hm hc0 => ?_, fun m => ?_, nd_snoc h.nn nn, fun m hm => List.mem_append_left _ (h.le m hm), fun m hm => ?_, fun m h1 h2 => ?_, fun m hm => ?_, h.km, ?_, fun a b h1 h2 h3 h4 e => ?_⟩
  · show ((S.en n).th m).count = ((ext.count ((S.en n).rf m) + act.count m + (S.en n).held ((S.en n).rf m) S.there : Nat) : Int)
    rw [ct', rf', held']
    exact h.cnt m hm
  · have hkv : kv ∈ ((S.en n).th m).parts := hkv
    rw [ps'] at hkv
    exact okv _ (h.pv m hm kv hkv)
  · show ((S.en n).th m).waits = true ↔ _
    rw [wt']
    exact h.wv m hm
  · have hc0 : ((S.en n).th m).count = 0 := hc0
    rw [ct'] at hc0
    exact h.zr m hm hc0
  · show m ∈ S.nums ++ [n] ↔ 1 ≤ m ∧ m ≤ S.many ∧ ((S.en n).th m).ended = true
    by_cases e : m = n
    · subst e
      have z : ((S.en m).th m).ended = true := by
        show ((S.set m _).th m).ended = true
        rw [set_same]
      obtain ⟨a, b⟩ := h.rng hn
      simp [z, a, b]
    · have z : ((S.en n).th m).ended = (S.th m).ended := by
        show ((S.set n _).th m).ended = _
        rw [set_ne _ _ _ e]
      rw [z, List.mem_append, List.mem_singleton]
      constructor
      · rintro (q | q)
        · exact (h.en m).mp q
        · exact absurd q e
      · exact fun q => .inl ((h.en m).mpr q)
  · show ((S.en n).th m).parts = []
    rw [ps']
    exact h.lp m hm
  · show ((S.en n).th m).parts = []
    rw [ps']
    exact h.mp m h1 h2
  · show (((S.en n).th m).parts.map (·.1)).Nodup ∧ ∀ k, k ∈ ((S.en n).th m).parts.map (·.1) → k ∈ sixK
    rw [ps']
    exact h.pk m hm
  · have := h.bud
    have := unE_en_le Kn S n
    show S.many + 3 * unE Kn (S.en n) ≤ 4 * Kn
    omega
  · have e : ((S.en n).th a).ad = ((S.en n).th b).ad := e
    rw [ad', ad'] at e
    exact h.ij a b h1 h2 h3 h4 e

/-- M3, M4: the parts of a thing that is there change, what goes out is held by the outside -/
theorem inv_pts {ext' : List V} (h : Inv Kn S ext act sus x) (hn : n ∈ S.there) {ps : List (Key × V)}
    (hc : ∀ m, m ∈ S.there → ext'.count (S.rf m) + vcnt (S.rf m) ps = ext.count (S.rf m) + vcnt (S.rf m) (S.th n).parts)
    (hp : ∀ kv, kv ∈ ps → OkV S kv.2) (he : ∀ v, v ∈ ext' → OkV S v) (hk : (ps.map (·.1)).Nodup ∧ ∀ k, k ∈ ps.map (·.1) → k ∈ sixK) (hK : n ≤ Kn ∨ ps = []) : Inv Kn (S.pts n ps) ext' act sus x := by
  have en' : ∀ m, ((S.pts n ps).th m).ended = (S.th m).ended := fun m => ended_set (by rfl) m
  have ad' : ∀ m, ((S.pts n ps).th m).ad = (S.th m).ad := fun m => ad_set (by rfl) m
  have ct' : ∀ m, ((S.pts n ps).th m).count = (S.th m).count := fun m => count_set (by rfl) m
  have wt' : ∀ m, ((S.pts n ps).th m).waits = (S.th m).waits := fun m => waits_set (by rfl) m
  have rf' : ∀ m, (S.pts n ps).rf m = S.rf m := fun m => by unfold Hs.rf; rw [ad']
  have same : ((S.pts n ps).th n).parts = ps := by
    show ((S.set n _).th n).parts = ps
    rw [set_same]
  have other : ∀ m, m ≠ n → ((S.pts n ps).th m).parts = (S.th m).parts := fun m e => by
    show ((S.set n _).th m).parts = _
    rw [set_ne _ _ _ e]
  have okv : ∀ v, OkV S v → OkV (S.pts n ps) v := fun v => okV_of (fun _ hk => hk) fun k _ => rf' k
  have nl : ∀ m, m ∈ S.left → m ≠ n := fun m hm e => (List.nodup_append.mp h.nd).2.2 n hn m hm e.symm
  refine ⟨h.nd, h.mem, fun m hm => ?_, fun m hm kv hkv => ?_, fun v hv => okv v (he v hv), h.av, fun m hm => ?_, h.wn, h.wt, h.wa, fun m hm hc0 => ?_, fun m => ?_, h.nn, h.le, fun m hm => ?_, fun m h1 h2 => ?_, fun m hm => ?_, h.km, ?_, fun a b h1 h2 h3 h4 e => ?_⟩
  · have hm : m ∈ S.there := hm
    show ((S.pts n ps).th m).count = ((ext'.count ((S.pts n ps).rf m) + act.count m + (S.pts n ps).held ((S.pts n ps).rf m) S.there : Nat) : Int)
    rw [ct', rf', h.cnt m hm]
    have q : (S.pts n ps).held (S.rf m) S.there + vcnt (S.rf m) (S.th n).parts = S.held (S.rf m) S.there + vcnt (S.rf m) ps := by
      have z := sum_upd (T := S.there) (m := n) (fun k => vcnt (S.rf m) ((S.pts n ps).th k).parts) (fun k => vcnt (S.rf m) (S.th k).parts) h.tnd hn fun k _ e => by rw [other k e]
      have z : ((S.there.map fun k => vcnt (S.rf m) ((S.pts n ps).th k).parts).sum) + vcnt (S.rf m) (S.th n).parts = ((S.there.map fun k => vcnt (S.rf m) (S.th k).parts).sum) + vcnt (S.rf m) ((S.pts n ps).th n).parts := z
      rw [same] at z
      exact z
    have r := hc m hm
    omega
  · by_cases e : m = n
    · subst e
      rw [same] at hkv
      exact okv _ (hp kv hkv)
    · rw [other m e] at hkv
      exact okv _ (h.pv m hm kv hkv)
  · rw [wt']
    exact h.wv m hm
  · rw [ct'] at hc0
    exact h.zr m hm hc0
  · rw [en']
    exact h.en m
  · rw [other m (nl m hm)]
    exact h.lp m hm
  · by_cases e : m = n
    · subst e
      rw [same]
      rcases hK with z | z
      · omega
      · exact z
    · rw [other m e]
      exact h.mp m h1 h2
  · by_cases e : m = n
    · subst e
      rw [same]
      exact hk
    · rw [other m e]
      exact h.pk m hm
  · rw [unE_same en']
    exact h.bud
  · rw [ad', ad'] at e
    exact h.ij a b h1 h2 h3 h4 e
theorem inv_put {v : V} {k : Key} (h : Inv Kn S (v :: ext) act sus x) (hn : n ∈ S.there) (hK : n ≤ Kn) (hk : k ∈ sixK) :
    Inv Kn (S.pts n (putK (S.th n).parts k v)) (((valV (S.th n).parts k).getD .non) :: ext) act sus x := by
  obtain ⟨k1, k2⟩ := h.pk n hn
  refine inv_pts h hn (fun m hm => ?_) (fun kv hkv => ?_) (fun u hu => ?_) ⟨put_nodup v k1, fun j hj => ?_⟩ (.inl hK)
  · have q := vcnt_put (S.rf m) (k := k) v k1
    rw [List.count_cons, List.count_cons]
    have e1 : (if (((valV (S.th n).parts k).getD .non) == S.rf m) = true then 1 else 0) = (if valV (S.th n).parts k = some (S.rf m) then 1 else 0) := by
      cases z : valV (S.th n).parts k with
      | none =>
        have : ¬ (V.non = S.rf m) := fun e => nomatch e
        simp [this]
      | some u => simp
    have e2 : (if (v == S.rf m) = true then 1 else 0) = (if v = S.rf m then 1 else 0) := by simp
    rw [e1, e2]
    omega
  · rcases put_mem hkv with z | z
    · exact h.pv n hn kv z
    · rw [z]; exact h.ev v List.mem_cons_self
  · rcases List.mem_cons.mp hu with z | z
    · cases e : valV (S.th n).parts k with
      | none =>
        rw [e] at z
        rw [z]; exact .inl trivial
      | some y =>
        rw [e] at z
        obtain ⟨kv, h1, h2, _⟩ := valV_mem e
        rw [z]
        show OkV S y
        rw [← h2]
        exact h.pv n hn kv h1
    · exact h.ev u (List.mem_cons_of_mem _ z)
  · rcases put_keys hj with z | z
    · exact k2 j z
    · rw [z]; exact hk
theorem inv_take {v : V} {k : Key} (h : Inv Kn S ext act sus x) (hn : n ∈ S.there) (e : valV (S.th n).parts k = some v) :
    Inv Kn (S.pts n (dropK (S.th n).parts k)) (v :: ext) act sus x := by
  obtain ⟨k1, k2⟩ := h.pk n hn
  obtain ⟨kv0, m1, m2, _⟩ := valV_mem e
  refine inv_pts h hn (fun m hm => ?_) (fun kv hkv => h.pv n hn kv (dropK_mem hkv)) (fun u hu => ?_) ⟨nd_dropK k1, fun j hj => ?_⟩ ?_
  · have q := vcnt_drop (S.rf m) (k := k) k1
    rw [List.count_cons]
    rw [e] at q
    have e2 : (if (v == S.rf m) = true then 1 else 0) = (if some v = some (S.rf m) then 1 else 0) := by simp
    rw [e2]
    omega
  · rcases List.mem_cons.mp hu with z | z
    · rw [z, ← m2]; exact h.pv n hn kv0 m1
    · exact h.ev u z
  · obtain ⟨p, hp, e⟩ := List.mem_map.mp hj
    exact k2 j (List.mem_map.mpr ⟨p, dropK_mem hp, e⟩)
  · by_cases q : n ≤ Kn
    · exact .inl q
    · exfalso
      rw [h.mp n (by omega) (h.rng hn).2] at m1
      cases m1

/-- M11: a thing is gone; its parts are the outside's to loose -/
def Hs.goes (S : Hs) (n : Nat) : Hs := { S with there := S.there.filter fun m => decide (m ≠ n), left := S.left ++ [n] }
theorem inv_gone (h : Inv Kn S ext act sus n) (hn : n ∈ S.there) (hc : (S.th n).count = 0) (hw : ¬ n ∈ sus ++ S.rl) (he : (S.th n).ended = true) :
    Inv Kn ((S.goes n).pts n []) ((S.th n).parts.map (·.2) ++ ext) act sus 0 := by
  have en' : ∀ m, (((S.goes n).pts n []).th m).ended = (S.th m).ended := fun m => ended_set (by rfl) m
  have ad' : ∀ m, (((S.goes n).pts n []).th m).ad = (S.th m).ad := fun m => ad_set (by rfl) m
  have ct' : ∀ m, (((S.goes n).pts n []).th m).count = (S.th m).count := fun m => count_set (by rfl) m
  have wt' : ∀ m, (((S.goes n).pts n []).th m).waits = (S.th m).waits := fun m => waits_set (by rfl) m
  have rf' : ∀ m, ((S.goes n).pts n []).rf m = S.rf m := fun m => by unfold Hs.rf; rw [ad']
  have same : (((S.goes n).pts n []).th n).parts = [] := by
    show (((S.goes n).set n _).th n).parts = []
    rw [set_same]
  have other : ∀ m, m ≠ n → (((S.goes n).pts n []).th m).parts = (S.th m).parts := fun m e => by
    show (((S.goes n).set n _).th m).parts = _
    rw [set_ne _ _ _ e]
    rfl
  have memT : ∀ m, m ∈ S.there.filter (fun m => decide (m ≠ n)) ↔ m ∈ S.there ∧ m ≠ n := fun m => by
    rw [List.mem_filter]
    simp
  have z0 := h.cnt n hn
  rw [hc] at z0
  have zh : S.held (S.rf n) S.there = 0 := by omega
  have ze : ext.count (S.rf n) = 0 := by omega
  have za : act.count n = 0 := by omega
  have okv : ∀ v, v ≠ S.rf n → OkV S v → OkV ((S.goes n).pts n []) v := fun v hv o => by
    rcases o with o | ⟨k, hk, e⟩
    · exact .inl o
    · refine .inr ⟨k, (memT k).mpr ⟨hk, fun q => hv (by rw [e, q])⟩, ?_⟩
      rw [rf']
      exact e
  have nref : ∀ m, m ∈ S.there → ∀ kv, kv ∈ (S.th m).parts → kv.2 ≠ S.rf n := fun m hm kv hkv e => by
    have q := sum_zero zh m hm
    have := vcnt_mem.mpr ⟨kv, hkv, e⟩
    omega
  refine ⟨?_, fun m => ?_, fun m hm => ?_, fun m hm kv hkv => ?_, fun v hv => ?_, fun m hm => ?_, fun m hm => ?_, h.wn, fun m hm => ?_, h.wa, fun m hm hc0 => ?_, fun m => ?_, h.nn, fun m hm => ?_, fun m hm => ?_, fun m h1 h2 => ?_, fun m hm => ?_, h.km, ?_, fun a b h1 h2 h3 h4 e => ?_⟩
  · obtain ⟨a, b, c⟩ := List.nodup_append.mp h.nd
    show (S.there.filter (fun m => decide (m ≠ n)) ++ (S.left ++ [n])).Nodup
    refine List.nodup_append.mpr ⟨a.filter _, nd_snoc b fun q => c n hn n q rfl, fun y hy z hz => ?_⟩
    obtain ⟨y1, y2⟩ := (memT y).mp hy
    rcases List.mem_append.mp hz with q | q
    · exact c y y1 z q
    · rw [List.mem_singleton.mp q]; exact y2
  · show m ∈ S.there.filter (fun m => decide (m ≠ n)) ++ (S.left ++ [n]) ↔ _
    have q := h.mem m
    rw [List.mem_append] at q
    rw [List.mem_append, memT, List.mem_append, List.mem_singleton]
    constructor
    · rintro (⟨z, _⟩ | z | z)
      · exact q.mp (.inl z)
      · exact q.mp (.inr z)
      · rw [z]; exact h.rng hn
    · intro z
      rcases q.mpr z with y | y
      · by_cases e : m = n
        · exact .inr (.inr e)
        · exact .inl ⟨y, e⟩
      · exact .inr (.inl y)
  · obtain ⟨hm, hne⟩ := (memT m).mp hm
    show (((S.goes n).pts n []).th m).count = (((((S.th n).parts.map (·.2) ++ ext).count (((S.goes n).pts n []).rf m)) + act.count m + ((S.goes n).pts n []).held (((S.goes n).pts n []).rf m) (S.there.filter fun m => decide (m ≠ n)) : Nat) : Int)
    rw [ct', rf', h.cnt m hm, List.count_append]
    have q := sum_filter (fun k => vcnt (S.rf m) (S.th k).parts) h.tnd hn
    have e1 : ((S.goes n).pts n []).held (S.rf m) (S.there.filter fun m => decide (m ≠ n)) = ((S.there.filter fun m => decide (m ≠ n)).map fun k => vcnt (S.rf m) (S.th k).parts).sum := by
      unfold Hs.held
      exact sum_same fun k hk => by rw [other k ((memT k).mp hk).2]
    rw [e1]
    have e2 : S.held (S.rf m) S.there = (S.there.map fun k => vcnt (S.rf m) (S.th k).parts).sum := rfl
    have e3 : ((S.th n).parts.map (·.2)).count (S.rf m) = vcnt (S.rf m) (S.th n).parts := rfl
    have q : ((S.there.filter fun m => decide (m ≠ n)).map fun k => vcnt (S.rf m) (S.th k).parts).sum + vcnt (S.rf m) (S.th n).parts = (S.there.map fun k => vcnt (S.rf m) (S.th k).parts).sum := q
    rw [e2, e3]
    omega
  · obtain ⟨hm, hne⟩ := (memT m).mp hm
    rw [other m hne] at hkv
    exact okv _ (nref m hm kv hkv) (h.pv m hm kv hkv)
  · rcases List.mem_append.mp hv with z | z
    · obtain ⟨kv, hkv, e⟩ := List.mem_map.mp z
      rw [← e]
      exact okv _ (nref n hn kv hkv) (h.pv n hn kv hkv)
    · exact okv _ (fun e => by
        rw [e] at z
        have := List.count_pos_iff.mpr z
        omega) (h.ev v z)
  · exact (memT m).mpr ⟨h.av m hm, fun e => by
      rw [e] at hm
      have := List.count_pos_iff.mpr hm
      omega⟩
  · obtain ⟨hm, hne⟩ := (memT m).mp hm
    rw [wt']
    exact h.wv m hm
  · exact (memT m).mpr ⟨h.wt m hm, fun e => hw (e ▸ hm)⟩
  · obtain ⟨hm, hne⟩ := (memT m).mp hm
    rw [ct'] at hc0
    rcases h.zr m hm hc0 with z | z
    · exact .inl z
    · exact absurd z hne
  · rw [en']
    exact h.en m
  · rcases List.mem_append.mp (show m ∈ S.left ++ [n] from hm) with z | z
    · exact h.le m z
    · rw [List.mem_singleton.mp z]
      obtain ⟨a, b⟩ := h.rng hn
      exact (h.en n).mpr ⟨a, b, he⟩
  · rcases List.mem_append.mp (show m ∈ S.left ++ [n] from hm) with z | z
    · rw [other m fun e => (List.nodup_append.mp h.nd).2.2 n hn m z e.symm]
      exact h.lp m z
    · rw [List.mem_singleton.mp z]
      exact same
  · by_cases e : m = n
    · rw [e]; exact same
    · rw [other m e]
      exact h.mp m h1 h2
  · obtain ⟨hm, hne⟩ := (memT m).mp hm
    rw [other m hne]
    exact h.pk m hm
  · rw [unE_same en']
    exact h.bud
  · rw [ad', ad'] at e
    exact h.ij a b h1 h2 h3 h4 e

/-- M12: a thing is made -/
def Hs.made (S : Hs) (p d q : Addr) (f : Str) : Hs :=
  { S with many := S.many + 1, th := fun m => if m = S.many + 1 then ⟨p, d, q, f, 0, [], false, false⟩ else S.th m, there := S.there ++ [S.many + 1] }
theorem made_old (S : Hs) (p d q : Addr) (f : Str) {m : Nat} (h : m ≤ S.many) : (S.made p d q f).th m = S.th m := if_neg (by omega)
theorem made_new (S : Hs) (p d q : Addr) (f : Str) : (S.made p d q f).th (S.many + 1) = ⟨p, d, q, f, 0, [], false, false⟩ := if_pos rfl
theorem inv_made {Kn' : Nat} (h : Inv Kn S ext act sus 0) {p d q : Addr} {f : Str} (hp : ∀ m, 1 ≤ m → m ≤ S.many → (S.th m).ad ≠ p) (hK : Kn ≤ Kn') (hK2 : Kn' ≤ S.many + 1) (hKm : Kn' = Kn ∨ S.many = Kn)
    (hb : S.many + 1 + 3 * unE Kn' (S.made p d q f) ≤ 4 * Kn') : Inv Kn' (S.made p d q f) ext act sus (S.many + 1) := by
  have old : ∀ m, m ∈ S.there → (S.made p d q f).th m = S.th m := fun m hm => made_old S p d q f (h.rng hm).2
  have rfo : ∀ m, m ∈ S.there → (S.made p d q f).rf m = S.rf m := fun m hm => by unfold Hs.rf; rw [old m hm]
  have okv : ∀ v, OkV S v → OkV (S.made p d q f) v := fun v => okV_of (fun _ hk => List.mem_append_left _ hk) fun k hk => rfo k hk
  have newn : ∀ m, m ≤ S.many → m ≠ S.many + 1 := fun m hm => by omega
  have rfn : (S.made p d q f).rf (S.many + 1) = .ref p := by unfold Hs.rf; rw [made_new]
  have nin : ¬ S.many + 1 ∈ S.there := fun z => by
    have := (h.rng z).2
    omega
  have notp : ∀ v, OkV S v → v ≠ .ref p := fun v o e => by
    rcases o with o | ⟨k, hk, ek⟩
    · rw [e] at o; exact o
    · rw [e] at ek
      obtain ⟨a, b⟩ := h.rng hk
      exact hp k a b (V.ref.inj ek).symm
  have hT : ∀ m, m ∈ S.there ++ [S.many + 1] → m ∈ S.there ∨ m = S.many + 1 := fun m hm => (List.mem_append.mp hm).imp id List.mem_singleton.mp
  have heldE : ∀ v, (S.made p d q f).held v (S.there ++ [S.many + 1]) = S.held v S.there := fun v => by
    unfold Hs.held
    rw [List.map_append, List.sum_append, sum_same (g := fun m => vcnt v (S.th m).parts) fun k hk => by rw [old k hk]]
    show _ + (vcnt v ((S.made p d q f).th (S.many + 1)).parts + 0) = _
    rw [made_new]
    rfl
  refine ⟨?_, fun m => ?_, fun m hm => ?_, fun m hm kv hkv => ?_, fun v hv => okv v (h.ev v hv), fun m hm => List.mem_append_left _ (h.av m hm), fun m hm => ?_, h.wn, fun m hm => List.mem_append_left _ (h.wt m hm), h.wa, fun m hm hc0 => ?_, fun m => ?_, h.nn, h.le, fun m hm => ?_, fun m h1 h2 => ?_, fun m hm => ?_, ?_, hb, fun a b h1 h2 h3 h4 e => ?_⟩
  · obtain ⟨a, b, c⟩ := List.nodup_append.mp h.nd
    show ((S.there ++ [S.many + 1]) ++ S.left).Nodup
    refine List.nodup_append.mpr ⟨nd_snoc a nin, b, fun y hy z hz => ?_⟩
    rcases hT y hy with r | r
    · exact c y r z hz
    · rintro rfl
      have := ((h.mem y).mp (List.mem_append_right _ hz)).2
      omega
  · have q := h.mem m
    rw [List.mem_append] at q
    show m ∈ (S.there ++ [S.many + 1]) ++ S.left ↔ 1 ≤ m ∧ m ≤ S.many + 1
    rw [List.mem_append, List.mem_append, List.mem_singleton]
    constructor
    · rintro ((z | z) | z)
      · have := q.mp (.inl z); omega
      · omega
      · have := q.mp (.inr z); omega
    · intro z
      by_cases e : m = S.many + 1
      · exact .inl (.inr e)
      · rcases q.mpr (by omega) with y | y
        · exact .inl (.inl y)
        · exact .inr y
  · show ((S.made p d q f).th m).count = ((ext.count ((S.made p d q f).rf m) + act.count m + (S.made p d q f).held ((S.made p d q f).rf m) (S.there ++ [S.many + 1]) : Nat) : Int)
    rw [heldE]
    rcases hT m hm with z | z
    · rw [old m z, rfo m z]
      exact h.cnt m z
    · subst z
      rw [made_new, rfn]
      have c1 : ext.count (V.ref p) = 0 := List.count_eq_zero.mpr fun z => notp _ (h.ev _ z) rfl
      have c2 : act.count (S.many + 1) = 0 := List.count_eq_zero.mpr fun z => nin (h.av _ z)
      have c3 : S.held (V.ref p) S.there = 0 := by
        apply Classical.byContradiction
        intro z
        obtain ⟨k, hk, hpos⟩ := sum_pos (T := S.there) (f := fun m => vcnt (V.ref p) (S.th m).parts) (Nat.pos_of_ne_zero z)
        obtain ⟨kv, hkv, e⟩ := vcnt_mem.mp hpos
        exact notp _ (h.pv k hk kv hkv) e
      rw [c1, c2, c3]
      rfl
  · rcases hT m hm with z | z
    · rw [old m z] at hkv
      exact okv _ (h.pv m z kv hkv)
    · subst z
      rw [made_new] at hkv
      cases hkv
  · rcases hT m hm with z | z
    · rw [old m z]
      exact h.wv m z
    · subst z
      rw [made_new]
      refine ⟨(fun z => nomatch z), fun z => absurd (h.wt _ z) nin⟩
  · rcases hT m hm with z | z
    · rw [old m z] at hc0
      rcases h.zr m z hc0 with y | y
      · exact .inl y
      · have := (h.rng z).1
        omega
    · exact .inr z
  · show m ∈ S.nums ↔ 1 ≤ m ∧ m ≤ S.many + 1 ∧ ((S.made p d q f).th m).ended = true
    by_cases e : m = S.many + 1
    · subst e
      rw [made_new]
      refine ⟨fun z => ?_, fun z => nomatch z.2.2⟩
      have := ((h.en _).mp z).2.1
      omega
    · rw [show (S.made p d q f).th m = S.th m from if_neg e, h.en m]
      constructor
      · rintro ⟨a, b, c⟩
        exact ⟨a, by omega, c⟩
      · rintro ⟨a, b, c⟩
        exact ⟨a, by omega, c⟩
  · rw [made_old S p d q f ((h.mem m).mp (List.mem_append_right _ hm)).2]
    exact h.lp m hm
  · by_cases e : m = S.many + 1
    · subst e
      rw [made_new]
    · have h2 : m ≤ S.many + 1 := h2
      rw [show (S.made p d q f).th m = S.th m from if_neg e]
      exact h.mp m (by omega) (by omega)
  · rcases hT m hm with z | z
    · rw [old m z]
      exact h.pk m z
    · subst z
      rw [made_new]
      exact ⟨List.nodup_nil, fun k hk => nomatch hk⟩
  · exact hK2
  · have h2 : a ≤ S.many + 1 := h2
    have h4 : b ≤ S.many + 1 := h4
    by_cases ea : a = S.many + 1
    · by_cases eb : b = S.many + 1
      · omega
      · subst ea
        rw [made_new, show (S.made p d q f).th b = S.th b from if_neg eb] at e
        exact absurd e.symm (hp b h3 (by omega))
    · by_cases eb : b = S.many + 1
      · subst eb
        rw [made_new, show (S.made p d q f).th a = S.th a from if_neg ea] at e
        exact absurd e (hp a h1 (by omega))
      · rw [show (S.made p d q f).th a = S.th a from if_neg ea, show (S.made p d q f).th b = S.th b from if_neg eb] at e
        exact h.ij a b h1 (by omega) h3 (by omega) e
end
end Snk
namespace Snk
open PySem L2
/-! ## D. how a heap holds a hall -/
structure Wd where
  C : Addr
  CH : Addr
  CE : Addr
  h : Addr
  hdx : Addr
  thA : Addr
  lfA : Addr
  e : Addr
  edx : Addr
  plA : Addr
  nmA : Addr
  hoA : Addr
def tf (t : Th) (n : Nat) : List (Str × V) :=
  [("form", .str t.form), ("number", .int (n : Int)), ("count", .int t.count), ("parts", .ref t.pd), ("own", .non), ("ended", .bl t.ended), ("waits", .bl t.waits)]
def rowO (r : Option (Addr × List Nat)) : V := match r with | none => .non | some p => .ref p.1
def rowV (S : Hs) : V := rowO S.row
def hf (W : Wd) (S : Hs) : List (Str × V) :=
  [("ender", .ref W.e), ("many", .int (S.many : Int)), ("there", .ref W.thA), ("left", .ref W.lfA), ("row", rowV S), ("lasts", .int S.lasts)]
def ef (W : Wd) : List (Str × V) := [("hall", .ref W.h), ("plans", .ref W.plA), ("numbers", .ref W.nmA), ("holds", .ref W.hoA)]
theorem tf_number (t : Th) (n : Nat) : (tf t n).lookup ("number" : Str) = some (V.int (n : Int)) := by kernel_rfl
theorem tf_count (t : Th) (n : Nat) : (tf t n).lookup ("count" : Str) = some (V.int t.count) := by kernel_rfl
theorem tf_parts (t : Th) (n : Nat) : (tf t n).lookup ("parts" : Str) = some (V.ref t.pd) := by kernel_rfl
theorem tf_ended (t : Th) (n : Nat) : (tf t n).lookup ("ended" : Str) = some (V.bl t.ended) := by kernel_rfl
theorem tf_waits (t : Th) (n : Nat) : (tf t n).lookup ("waits" : Str) = some (V.bl t.waits) := by kernel_rfl
theorem tf_put_count (t : Th) (n : Nat) (c : Int) : putF "count" (.int c) (tf t n) = tf { t with count := c } n := by kernel_rfl
theorem tf_put_ended (t : Th) (n : Nat) (b : Bool) : putF "ended" (.bl b) (tf t n) = tf { t with ended := b } n := by kernel_rfl
theorem tf_put_waits (t : Th) (n : Nat) (b : Bool) : putF "waits" (.bl b) (tf t n) = tf { t with waits := b } n := by kernel_rfl
theorem hf_ender (W : Wd) (S : Hs) : (hf W S).lookup ("ender" : Str) = some (V.ref W.e) := by kernel_rfl
theorem hf_many (W : Wd) (S : Hs) : (hf W S).lookup ("many" : Str) = some (V.int (S.many : Int)) := by kernel_rfl
theorem hf_there (W : Wd) (S : Hs) : (hf W S).lookup ("there" : Str) = some (V.ref W.thA) := by kernel_rfl
theorem hf_left (W : Wd) (S : Hs) : (hf W S).lookup ("left" : Str) = some (V.ref W.lfA) := by kernel_rfl
theorem hf_row (W : Wd) (S : Hs) : (hf W S).lookup ("row" : Str) = some (rowV S) := by kernel_rfl
theorem hf_lasts (W : Wd) (S : Hs) : (hf W S).lookup ("lasts" : Str) = some (V.int S.lasts) := by kernel_rfl
theorem hf_no_make (W : Wd) (S : Hs) : (hf W S).lookup ("make" : Str) = none := by kernel_rfl
theorem hf_no_hold (W : Wd) (S : Hs) : (hf W S).lookup ("hold" : Str) = none := by kernel_rfl
theorem hf_no_loose (W : Wd) (S : Hs) : (hf W S).lookup ("loose" : Str) = none := by kernel_rfl
theorem hf_no_put (W : Wd) (S : Hs) : (hf W S).lookup ("put" : Str) = none := by kernel_rfl
theorem hf_no_take (W : Wd) (S : Hs) : (hf W S).lookup ("take" : Str) = none := by kernel_rfl
theorem hf_no_things (W : Wd) (S : Hs) : (hf W S).lookup ("things" : Str) = none := by kernel_rfl
theorem hf_no_gone (W : Wd) (S : Hs) : (hf W S).lookup ("gone" : Str) = none := by kernel_rfl
theorem hf_no_let_go (W : Wd) (S : Hs) : (hf W S).lookup ("let_go" : Str) = none := by kernel_rfl
theorem hf_no_work (W : Wd) (S : Hs) : (hf W S).lookup ("work" : Str) = none := by kernel_rfl
theorem hf_no_turn (W : Wd) (S : Hs) : (hf W S).lookup ("turn" : Str) = none := by kernel_rfl
theorem hf_no_ask_last (W : Wd) (S : Hs) : (hf W S).lookup ("ask_last" : Str) = none := by kernel_rfl
theorem hf_no_be_gone (W : Wd) (S : Hs) : (hf W S).lookup ("be_gone" : Str) = none := by kernel_rfl
theorem hf_no_empty (W : Wd) (S : Hs) : (hf W S).lookup ("empty" : Str) = none := by kernel_rfl
theorem hf_put_many (W : Wd) (S : Hs) (m : Nat) : putF "many" (.int (m : Int)) (hf W S) = hf W { S with many := m } := by kernel_rfl
theorem hf_put_row (W : Wd) (S : Hs) (r : Option (Addr × List Nat)) : putF "row" (rowO r) (hf W S) = hf W { S with row := r } := by kernel_rfl
theorem hf_put_lasts (W : Wd) (S : Hs) (z : Int) : putF "lasts" (.int z) (hf W S) = hf W { S with lasts := z } := by kernel_rfl
theorem ef_hall (W : Wd) : (ef W).lookup ("hall" : Str) = some (V.ref W.h) := by kernel_rfl
theorem ef_plans (W : Wd) : (ef W).lookup ("plans" : Str) = some (V.ref W.plA) := by kernel_rfl
theorem ef_numbers (W : Wd) : (ef W).lookup ("numbers" : Str) = some (V.ref W.nmA) := by kernel_rfl
theorem ef_holds (W : Wd) : (ef W).lookup ("holds" : Str) = some (V.ref W.hoA) := by kernel_rfl
theorem ef_no_lay (W : Wd) : (ef W).lookup ("lay" : Str) = none := by kernel_rfl
theorem ef_no_plan (W : Wd) : (ef W).lookup ("plan" : Str) = none := by kernel_rfl
theorem ef_no_last (W : Wd) : (ef W).lookup ("last" : Str) = none := by kernel_rfl
theorem ef_no_is_there (W : Wd) : (ef W).lookup ("is_there" : Str) = none := by kernel_rfl
theorem ef_no_do (W : Wd) : (ef W).lookup ("do" : Str) = none := by kernel_rfl
theorem ef_no_sweep (W : Wd) : (ef W).lookup ("sweep" : Str) = none := by kernel_rfl
theorem ef_no_asked (W : Wd) : (ef W).lookup ("asked" : Str) = none := by kernel_rfl
def thKvs (S : Hs) : List (Key × V) := S.there.map fun n : Nat => ((Sum.inl (n : Int) : Key), S.rf n)
def plKvs (S : Hs) : List (Key × V) := S.plans.map fun p => ((Sum.inl (p.1 : Int) : Key), V.ref p.2)
def natV (l : List Nat) : List V := l.map fun n : Nat => V.int (n : Int)
inductive Role where
  | hall | thd | lf | en | pl | nm | ho | th (n : Nat) | pd (n : Nat) | row
def adr (W : Wd) (S : Hs) : Role → Option Addr
  | .hall => some W.h
  | .thd => some W.thA
  | .lf => some W.lfA
  | .en => some W.e
  | .pl => some W.plA
  | .nm => some W.nmA
  | .ho => some W.hoA
  | .th n => if 1 ≤ n ∧ n ≤ S.many then some (S.th n).ad else none
  | .pd n => if 1 ≤ n ∧ n ≤ S.many then some (S.th n).pd else none
  | .row => S.row.map (·.1)
def obj (W : Wd) (S : Hs) : Role → HO
  | .hall => .ins W.CH W.hdx (hf W S)
  | .thd => .dK (thKvs S)
  | .lf => .lst (natV S.left)
  | .en => .ins W.CE W.edx (ef W)
  | .pl => .dK (plKvs S)
  | .nm => .lst (natV S.nums)
  | .ho => .lst []
  | .th n => .ins W.C (S.th n).dx (tf (S.th n) n)
  | .pd n => .dK (S.th n).parts
  | .row => .lst (S.rl.map S.rf)
/-- the heap H holds the hall S, and beside it the frame F -/
structure Rep (W : Wd) (S : Hs) (F H : Hp) : Prop where
  at_ : ∀ r a, adr W S r = some a → H a = some (obj W S r)
  inj : ∀ r q a, adr W S r = some a → adr W S q = some a → r = q
  fr : ∀ b o, F b = some o → H b = some o
  dj : ∀ b o r, F b = some o → adr W S r ≠ some b
section
variable {W : Wd} {S S' : Hs} {F F' H H' : Hp}
theorem Rep.hall (R : Rep W S F H) : H W.h = some (.ins W.CH W.hdx (hf W S)) := R.at_ .hall _ rfl
theorem Rep.thd (R : Rep W S F H) : H W.thA = some (.dK (thKvs S)) := R.at_ .thd _ rfl
theorem Rep.lf (R : Rep W S F H) : H W.lfA = some (.lst (natV S.left)) := R.at_ .lf _ rfl
theorem Rep.en (R : Rep W S F H) : H W.e = some (.ins W.CE W.edx (ef W)) := R.at_ .en _ rfl
theorem Rep.pl (R : Rep W S F H) : H W.plA = some (.dK (plKvs S)) := R.at_ .pl _ rfl
theorem Rep.nm (R : Rep W S F H) : H W.nmA = some (.lst (natV S.nums)) := R.at_ .nm _ rfl
theorem adr_th {n : Nat} (h : 1 ≤ n ∧ n ≤ S.many) : adr W S (.th n) = some (S.th n).ad := if_pos h
theorem adr_pd {n : Nat} (h : 1 ≤ n ∧ n ≤ S.many) : adr W S (.pd n) = some (S.th n).pd := if_pos h
theorem Rep.th (R : Rep W S F H) {n : Nat} (h : 1 ≤ n ∧ n ≤ S.many) : H (S.th n).ad = some (.ins W.C (S.th n).dx (tf (S.th n) n)) := R.at_ (.th n) _ (adr_th h)
theorem Rep.pd (R : Rep W S F H) {n : Nat} (h : 1 ≤ n ∧ n ≤ S.many) : H (S.th n).pd = some (.dK (S.th n).parts) := R.at_ (.pd n) _ (adr_pd h)
theorem Rep.row (R : Rep W S F H) {r : Addr} {l : List Nat} (h : S.row = some (r, l)) : H r = some (.lst (l.map S.rf)) := by
  have e : adr W S .row = some r := by
    show S.row.map (·.1) = some r
    rw [h]
    rfl
  have q := R.at_ .row r e
  have e2 : S.rl = l := by unfold Hs.rl; rw [h]
  have e3 : obj W S .row = .lst (S.rl.map S.rf) := rfl
  rw [e3, e2] at q
  exact q
/-- one object of the hall is written -/
theorem Rep.write (R : Rep W S F H) {r : Role} {a : Addr} (ha : adr W S r = some a) (hadr : ∀ q, adr W S' q = adr W S q) (hobj : ∀ q, q ≠ r → obj W S' q = obj W S q) : Rep W S' F (upd H a (obj W S' r)) := by
  refine ⟨fun q b hq => ?_, fun p q b hp hq => ?_, fun b o hb => ?_, fun b o q hb => ?_⟩
  · rw [hadr] at hq
    by_cases e : q = r
    · subst e
      have : a = b := Option.some.inj (ha.symm.trans hq)
      subst this
      exact upd_same
    · have nab : b ≠ a := by
        rintro rfl
        exact e (R.inj q r b hq ha)
      rw [upd_ne nab, hobj q e]
      exact R.at_ q b hq
  · rw [hadr] at hp hq
    exact R.inj p q b hp hq
  · have nab : b ≠ a := by
      rintro rfl
      exact R.dj b o r hb ha
    rw [upd_ne nab]
    exact R.fr b o hb
  · rw [hadr]
    exact R.dj b o q hb
/-- objects besides -/
theorem Rep.same (R : Rep W S F H) (k : Same H H') : Rep W S F H' :=
  ⟨fun r a h => k _ _ (R.at_ r a h), R.inj, fun b o h => k _ _ (R.fr b o h), R.dj⟩
theorem same_new {p : Addr} (h : H p = none) (o : HO) : Same H (upd H p o) := fun b u q => by rw [upd_ne (ne_of_none q h)]; exact q
theorem Rep.new (R : Rep W S F H) {p : Addr} (h : H p = none) (o : HO) : Rep W S F (upd H p o) := R.same (same_new h o)
theorem Rep.free (R : Rep W S F H) {p : Addr} (h : H p = none) (r : Role) : adr W S r ≠ some p := fun e => by
  have := R.at_ r p e
  rw [h] at this
  cases this
theorem Rep.ffree (R : Rep W S F H) {p : Addr} (h : H p = none) : F p = none := by
  cases q : F p with
  | none => rfl
  | some o =>
    have := R.fr p o q
    rw [h] at this
    cases this
/-- a new object of the frame -/
theorem Rep.fnew (R : Rep W S F H) {p : Addr} (h : H p = none) (o : HO) : Rep W S (upd F p o) (upd H p o) := by
  refine ⟨(R.new h o).at_, R.inj, fun b u q => ?_, fun b u r q => ?_⟩
  · by_cases e : b = p
    · subst e
      rw [upd_same] at q ⊢
      exact q
    · rw [upd_ne e] at q ⊢
      exact R.fr b u q
  · by_cases e : b = p
    · subst e
      exact R.free h r
    · rw [upd_ne e] at q
      exact R.dj b u r q
/-- an object of the frame is written -/
theorem Rep.fupd (R : Rep W S F H) {p : Addr} {u : HO} (h : F p = some u) (o : HO) : Rep W S (upd F p o) (upd H p o) := by
  refine ⟨fun r a hr => ?_, R.inj, fun b u q => ?_, fun b u' r q => ?_⟩
  · have e : a ≠ p := by
      rintro rfl
      exact R.dj a u r h hr
    rw [upd_ne e]
    exact R.at_ r a hr
  · by_cases e : b = p
    · subst e
      rw [upd_same] at q ⊢
      exact q
    · rw [upd_ne e] at q ⊢
      exact R.fr b u q
  · by_cases e : b = p
    · subst e
      exact R.dj b u r h
    · rw [upd_ne e] at q
      exact R.dj b u' r q
/-- what is tracked besides becomes a part of the frame -/
theorem Rep.fadd (R : Rep W S F H) {p : Addr} {o : HO} (h : H p = some o) (hn : ∀ r, adr W S r ≠ some p) : Rep W S (upd F p o) H := by
  refine ⟨R.at_, R.inj, fun b u q => ?_, fun b u r q => ?_⟩
  · by_cases e : b = p
    · subst e
      rw [upd_same] at q
      rw [h]
      exact q
    · rw [upd_ne e] at q
      exact R.fr b u q
  · by_cases e : b = p
    · subst e
      exact hn r
    · rw [upd_ne e] at q
      exact R.dj b u r q
theorem Rep.fsub (R : Rep W S F' H) (k : Same F F') : Rep W S F H :=
  ⟨R.at_, R.inj, fun b o h => R.fr b o (k b o h), fun b o r h => R.dj b o r (k b o h)⟩
theorem rl_row (S : Hs) (r : Option (Addr × List Nat)) : ({ S with row := r } : Hs).rl = match r with | some p => p.2 | none => [] := rfl

/-! ### the writes, one by one -/
theorem adr_set {n : Nat} {t : Th} (h1 : t.ad = (S.th n).ad) (h2 : t.pd = (S.th n).pd) (q : Role) : adr W (S.set n t) q = adr W S q := by
  cases q with
  | th m =>
    show (if 1 ≤ m ∧ m ≤ S.many then some ((S.set n t).th m).ad else none) = if 1 ≤ m ∧ m ≤ S.many then some (S.th m).ad else none
    rw [ad_set h1]
  | pd m =>
    show (if 1 ≤ m ∧ m ≤ S.many then some ((S.set n t).th m).pd else none) = if 1 ≤ m ∧ m ≤ S.many then some (S.th m).pd else none
    have : ((S.set n t).th m).pd = (S.th m).pd := by
      rw [th_set]
      by_cases e : m = n
      · rw [if_pos e, h2, e]
      · rw [if_neg e]
    rw [this]
  | _ => rfl
theorem rf_fun {n : Nat} {t : Th} (h1 : t.ad = (S.th n).ad) : (S.set n t).rf = S.rf := funext fun m => rf_set h1 m
theorem obj_set {n : Nat} {t : Th} (h1 : t.ad = (S.th n).ad) (q : Role) (h : ∀ m, (q = .th m ∨ q = .pd m) → m ≠ n) : obj W (S.set n t) q = obj W S q := by
  cases q with
  | th m =>
    show HO.ins W.C ((S.set n t).th m).dx (tf ((S.set n t).th m) m) = _
    rw [set_ne _ _ _ (h m (.inl rfl))]
    rfl
  | pd m =>
    show HO.dK ((S.set n t).th m).parts = _
    rw [set_ne _ _ _ (h m (.inr rfl))]
    rfl
  | thd =>
    show HO.dK (S.there.map fun m : Nat => ((Sum.inl (m : Int) : Key), (S.set n t).rf m)) = _
    rw [rf_fun h1]
    rfl
  | row =>
    show HO.lst (S.rl.map (S.set n t).rf) = _
    rw [rf_fun h1]
    rfl
  | _ => rfl
/-- a thing's own fields -/
theorem Rep.setTh (R : Rep W S F H) {n : Nat} (hn : 1 ≤ n ∧ n ≤ S.many) {t : Th} (h1 : t.ad = (S.th n).ad) (h2 : t.pd = (S.th n).pd) (h3 : t.parts = (S.th n).parts) (h4 : t.dx = (S.th n).dx) :
    Rep W (S.set n t) F (upd H (S.th n).ad (.ins W.C (S.th n).dx (tf t n))) := by
  have e : obj W (S.set n t) (.th n) = .ins W.C (S.th n).dx (tf t n) := by
    show HO.ins W.C ((S.set n t).th n).dx (tf ((S.set n t).th n) n) = _
    rw [set_same, h4]
  rw [← e]
  refine R.write (adr_th hn) (adr_set h1 h2) fun q hq => ?_
  by_cases z : q = .pd n
  · subst z
    show HO.dK ((S.set n t).th n).parts = HO.dK (S.th n).parts
    rw [set_same, h3]
  · refine obj_set h1 q fun m hm => ?_
    rintro rfl
    rcases hm with y | y
    · exact hq y
    · exact z y
theorem Rep.cn (R : Rep W S F H) {n : Nat} (hn : 1 ≤ n ∧ n ≤ S.many) (c : Int) : Rep W (S.cn n c) F (upd H (S.th n).ad (.ins W.C (S.th n).dx (putF "count" (.int c) (tf (S.th n) n)))) := by
  rw [tf_put_count]
  exact R.setTh hn rfl rfl rfl rfl
theorem Rep.wt (R : Rep W S F H) {n : Nat} (hn : 1 ≤ n ∧ n ≤ S.many) (b : Bool) : Rep W (S.wt n b) F (upd H (S.th n).ad (.ins W.C (S.th n).dx (putF "waits" (.bl b) (tf (S.th n) n)))) := by
  rw [tf_put_waits]
  exact R.setTh hn rfl rfl rfl rfl
theorem Rep.ended (R : Rep W S F H) {n : Nat} (hn : 1 ≤ n ∧ n ≤ S.many) : Rep W (S.en n) F (upd H (S.th n).ad (.ins W.C (S.th n).dx (putF "ended" (.bl true) (tf (S.th n) n)))) := by
  rw [tf_put_ended]
  exact R.setTh hn rfl rfl rfl rfl
/-- a thing's parts -/
theorem Rep.pts (R : Rep W S F H) {n : Nat} (hn : 1 ≤ n ∧ n ≤ S.many) (ps : List (Key × V)) : Rep W (S.pts n ps) F (upd H (S.th n).pd (.dK ps)) := by
  have e : obj W (S.pts n ps) (.pd n) = .dK ps := by
    show HO.dK ((S.set n _).th n).parts = _
    rw [set_same]
  rw [← e]
  refine R.write (S' := S.pts n ps) (adr_pd hn) (adr_set rfl rfl) fun q hq => ?_
  by_cases z : q = .th n
  · subst z
    show HO.ins W.C ((S.set n _).th n).dx (tf ((S.set n _).th n) n) = _
    rw [set_same]
    rfl
  · refine obj_set (t := { S.th n with parts := ps }) rfl q fun m hm => ?_
    rintro rfl
    rcases hm with y | y
    · exact z y
    · exact hq y
/-- the hall's count of lasts -/
theorem Rep.lasts (R : Rep W S F H) (z : Int) : Rep W { S with lasts := z } F (upd H W.h (.ins W.CH W.hdx (putF "lasts" (.int z) (hf W S)))) := by
  rw [hf_put_lasts]
  refine R.write (S' := { S with lasts := z }) (r := .hall) rfl (fun q => by cases q <;> rfl) fun q hq => ?_
  cases q <;> first | rfl | exact absurd rfl hq
/-- the row's list -/
theorem Rep.rowl (R : Rep W S F H) {r : Addr} {l l' : List Nat} (hr : S.row = some (r, l)) : Rep W { S with row := some (r, l') } F (upd H r (.lst (l'.map S.rf))) := by
  have e : adr W S .row = some r := by
    show S.row.map (·.1) = some r
    rw [hr]
    rfl
  refine R.write (S' := { S with row := some (r, l') }) (r := .row) e (fun q => ?_) fun q hq => ?_
  · cases q with
    | row => exact e.symm
    | _ => rfl
  · cases q with
    | row => exact absurd rfl hq
    | hall =>
      show HO.ins W.CH W.hdx (hf W { S with row := some (r, l') }) = HO.ins W.CH W.hdx (hf W S)
      have : hf W { S with row := some (r, l') } = hf W S := by
        show [_, _, _, _, (("row" : Str), rowO (some (r, l'))), _] = [_, _, _, _, (("row" : Str), rowO S.row), _]
        rw [hr]
        rfl
      rw [this]
    | _ => rfl
/-- the row is taken away: its list goes to the frame -/
theorem Rep.rowOff (R : Rep W S F H) {r : Addr} {l : List Nat} (hr : S.row = some (r, l)) : Rep W { S with row := none } (upd F r (.lst (l.map S.rf))) (upd H W.h (.ins W.CH W.hdx (putF "row" .non (hf W S)))) := by
  have e : adr W S .row = some r := by
    show S.row.map (·.1) = some r
    rw [hr]
    rfl
  have nh : r ≠ W.h := by
    rintro rfl
    have := R.inj .row .hall _ e rfl
    cases this
  have q1 : putF "row" .non (hf W S) = hf W { S with row := none } := hf_put_row W S none
  rw [q1]
  have old : ∀ q b, adr W { S with row := none } q = some b → adr W S q = some b ∧ q ≠ .row := fun q b h => by
    cases q with
    | row => cases h
    | _ => exact ⟨h, fun z => nomatch z⟩
  refine ⟨fun q b h => ?_, fun p q b h1 h2 => R.inj p q b (old p b h1).1 (old q b h2).1, fun b o h => ?_, fun b o q h z => ?_⟩
  · obtain ⟨h', hq⟩ := old q b h
    by_cases z : q = .hall
    · subst z
      have : W.h = b := Option.some.inj h'
      subst this
      exact upd_same
    · have nb : b ≠ W.h := by
        rintro rfl
        exact z (R.inj q .hall _ h' rfl)
      rw [upd_ne nb]
      have := R.at_ q b h'
      rw [this]
      cases q <;> first | rfl | exact absurd rfl z | exact absurd rfl hq
  · by_cases z : b = r
    · subst z
      rw [upd_same] at h
      rw [upd_ne nh, ← h]
      exact R.row hr
    · rw [upd_ne z] at h
      have nb : b ≠ W.h := by
        rintro rfl
        exact R.dj _ o .hall h rfl
      rw [upd_ne nb]
      exact R.fr b o h
  · obtain ⟨z1, z2⟩ := old q b z
    by_cases y : b = r
    · subst y
      exact z2 (R.inj q .row _ z1 e)
    · rw [upd_ne y] at h
      exact R.dj b o q h z1
/-- a row is laid (a new list, or one that stood in the frame) -/
theorem Rep.rowOn (R : Rep W S F' H) {r : Addr} {l : List Nat} (h : H r = some (.lst (l.map S.rf))) (hq : ∀ q, adr W S q ≠ some r) (hF : ∀ b o, F b = some o → F' b = some o ∧ b ≠ r) :
    Rep W { S with row := some (r, l) } F (upd H W.h (.ins W.CH W.hdx (putF "row" (.ref r) (hf W S)))) := by
  have q1 : putF "row" (.ref r) (hf W S) = hf W { S with row := some (r, l) } := hf_put_row W S (some (r, l))
  rw [q1]
  have nh : r ≠ W.h := by
    rintro rfl
    exact hq .hall rfl
  have old : ∀ q b, adr W { S with row := some (r, l) } q = some b → (q = .row ∧ b = r) ∨ (q ≠ .row ∧ adr W S q = some b) := fun q b h => by
    cases q with
    | row => exact .inl ⟨rfl, (Option.some.inj h).symm⟩
    | _ => exact .inr ⟨(fun z => nomatch z), h⟩
  refine ⟨fun q b h1 => ?_, fun p q b h1 h2 => ?_, fun b o h1 => ?_, fun b o q h1 z => ?_⟩
  · rcases old q b h1 with ⟨rfl, rfl⟩ | ⟨nq, h2⟩
    · rw [upd_ne nh]
      exact h
    · by_cases z : q = .hall
      · subst z
        have : W.h = b := Option.some.inj h2
        subst this
        exact upd_same
      · have nb : b ≠ W.h := by
          rintro rfl
          exact z (R.inj q .hall _ h2 rfl)
        rw [upd_ne nb, R.at_ q b h2]
        cases q <;> first | rfl | exact absurd rfl z | exact absurd rfl nq
  · rcases old p b h1 with ⟨rfl, rfl⟩ | ⟨n1, e1⟩
    · rcases old q b h2 with ⟨rfl, _⟩ | ⟨n2, e2⟩
      · rfl
      · exact absurd e2 (hq q)
    · rcases old q b h2 with ⟨rfl, rfl⟩ | ⟨n2, e2⟩
      · exact absurd e1 (hq p)
      · exact R.inj p q b e1 e2
  · obtain ⟨f1, _⟩ := hF b o h1
    have nb : b ≠ W.h := by
      rintro rfl
      exact R.dj _ o .hall f1 rfl
    rw [upd_ne nb]
    exact R.fr b o f1
  · obtain ⟨f1, f2⟩ := hF b o h1
    rcases old q b z with ⟨rfl, rfl⟩ | ⟨_, e1⟩
    · exact f2 rfl
    · exact R.dj b o q f1 e1
/-- those gone, those asked, the dict of those there, the plans -/
theorem Rep.lfw (R : Rep W S F H) (l : List Nat) : Rep W { S with left := l } F (upd H W.lfA (.lst (natV l))) := by
  refine R.write (S' := { S with left := l }) (r := .lf) rfl (fun q => by cases q <;> rfl) fun q hq => ?_
  cases q <;> first | rfl | exact absurd rfl hq
theorem Rep.nmw (R : Rep W S F H) (l : List Nat) : Rep W { S with nums := l } F (upd H W.nmA (.lst (natV l))) := by
  refine R.write (S' := { S with nums := l }) (r := .nm) rfl (fun q => by cases q <;> rfl) fun q hq => ?_
  cases q <;> first | rfl | exact absurd rfl hq
theorem Rep.thw (R : Rep W S F H) (l : List Nat) : Rep W { S with there := l } F (upd H W.thA (.dK (l.map fun n : Nat => ((Sum.inl (n : Int) : Key), S.rf n)))) := by
  refine R.write (S' := { S with there := l }) (r := .thd) rfl (fun q => by cases q <;> rfl) fun q hq => ?_
  cases q <;> first | rfl | exact absurd rfl hq
theorem Rep.plw (R : Rep W S F H) (l : List (Nat × Addr)) : Rep W { S with plans := l } F (upd H W.plA (.dK (l.map fun p => ((Sum.inl (p.1 : Int) : Key), V.ref p.2)))) := by
  refine R.write (S' := { S with plans := l }) (r := .pl) rfl (fun q => by cases q <;> rfl) fun q hq => ?_
  cases q <;> first | rfl | exact absurd rfl hq
/-- a thing is made: what the heap holds then -/
theorem Rep.made (R : Rep W S F H) {p d q : Addr} {f : Str} (hp : H p = none) (hq : H q = none) (npq : p ≠ q)
    (e1 : H' W.h = some (.ins W.CH W.hdx (hf W (S.made p d q f)))) (e2 : H' W.thA = some (.dK (thKvs (S.made p d q f))))
    (e3 : H' p = some (.ins W.C d (tf ⟨p, d, q, f, 0, [], false, false⟩ (S.many + 1)))) (e4 : H' q = some (.dK []))
    (k : ∀ b o, H b = some o → b ≠ W.h → b ≠ W.thA → H' b = some o) (hrow : ∀ n, n ∈ S.rl → n ≤ S.many) : Rep W (S.made p d q f) F H' := by
  have old : ∀ r a, adr W (S.made p d q f) r = some a → (r = .th (S.many + 1) ∧ a = p) ∨ (r = .pd (S.many + 1) ∧ a = q) ∨ (r ≠ .th (S.many + 1) ∧ r ≠ .pd (S.many + 1) ∧ adr W S r = some a) := fun r a h => by
    cases r with
    | th m =>
      have h : (if 1 ≤ m ∧ m ≤ S.many + 1 then some ((S.made p d q f).th m).ad else none) = some a := h
      by_cases e : m = S.many + 1
      · subst e
        rw [if_pos ⟨by omega, by omega⟩, made_new] at h
        exact .inl ⟨rfl, (Option.some.inj h).symm⟩
      · refine .inr (.inr ⟨fun z => e (Role.th.inj z), (fun z => nomatch z), ?_⟩)
        by_cases c : 1 ≤ m ∧ m ≤ S.many + 1
        · rw [if_pos c, made_old S p d q f (by omega)] at h
          rw [adr_th ⟨c.1, by omega⟩]
          exact h
        · rw [if_neg c] at h
          cases h
    | pd m =>
      have h : (if 1 ≤ m ∧ m ≤ S.many + 1 then some ((S.made p d q f).th m).pd else none) = some a := h
      by_cases e : m = S.many + 1
      · subst e
        rw [if_pos ⟨by omega, by omega⟩, made_new] at h
        exact .inr (.inl ⟨rfl, (Option.some.inj h).symm⟩)
      · refine .inr (.inr ⟨(fun z => nomatch z), fun z => e (Role.pd.inj z), ?_⟩)
        by_cases c : 1 ≤ m ∧ m ≤ S.many + 1
        · rw [if_pos c, made_old S p d q f (by omega)] at h
          rw [adr_pd ⟨c.1, by omega⟩]
          exact h
        · rw [if_neg c] at h
          cases h
    | _ => exact .inr (.inr ⟨(fun z => nomatch z), (fun z => nomatch z), h⟩)
  refine ⟨fun r a h => ?_, fun r r2 a h1 h2 => ?_, fun b o h => ?_, fun b o r h z => ?_⟩
  · rcases old r a h with ⟨rfl, rfl⟩ | ⟨rfl, rfl⟩ | ⟨n1, n2, h0⟩
    · rw [e3]
      show _ = some (HO.ins W.C ((S.made a d q f).th (S.many + 1)).dx (tf ((S.made a d q f).th (S.many + 1)) (S.many + 1)))
      rw [made_new]
    · rw [e4]
      show _ = some (HO.dK ((S.made p d a f).th (S.many + 1)).parts)
      rw [made_new]
    · by_cases z1 : r = .hall
      · subst z1
        have : W.h = a := Option.some.inj h0
        subst this
        exact e1
      · by_cases z2 : r = .thd
        · subst z2
          have : W.thA = a := Option.some.inj h0
          subst this
          exact e2
        · have na1 : a ≠ W.h := by
            rintro rfl
            exact z1 (R.inj r .hall _ h0 rfl)
          have na2 : a ≠ W.thA := by
            rintro rfl
            exact z2 (R.inj r .thd _ h0 rfl)
          rw [k a _ (R.at_ r a h0) na1 na2]
          cases r with
          | hall => exact absurd rfl z1
          | thd => exact absurd rfl z2
          | th m =>
            have hm : m ≤ S.many := by
              by_cases c : 1 ≤ m ∧ m ≤ S.many
              · exact c.2
              · have : adr W S (.th m) = none := if_neg c
                rw [this] at h0
                cases h0
            show some (HO.ins W.C (S.th m).dx (tf (S.th m) m)) = some (HO.ins W.C ((S.made p d q f).th m).dx (tf ((S.made p d q f).th m) m))
            rw [made_old S p d q f hm]
          | pd m =>
            have hm : m ≤ S.many := by
              by_cases c : 1 ≤ m ∧ m ≤ S.many
              · exact c.2
              · have : adr W S (.pd m) = none := if_neg c
                rw [this] at h0
                cases h0
            show some (HO.dK (S.th m).parts) = some (HO.dK ((S.made p d q f).th m).parts)
            rw [made_old S p d q f hm]
          | row =>
            show some (HO.lst (S.rl.map S.rf)) = some (HO.lst (S.rl.map (S.made p d q f).rf))
            have : S.rl.map (S.made p d q f).rf = S.rl.map S.rf := List.map_congr_left fun n hn => by
              unfold Hs.rf
              rw [made_old S p d q f (hrow n hn)]
            rw [this]
          | _ => rfl
  · rcases old r a h1 with ⟨rfl, rfl⟩ | ⟨rfl, rfl⟩ | ⟨_, _, h0⟩
    · rcases old r2 a h2 with ⟨rfl, _⟩ | ⟨_, y⟩ | ⟨_, _, y⟩
      · rfl
      · exact absurd y npq
      · exact absurd y (R.free hp r2)
    · rcases old r2 a h2 with ⟨_, y⟩ | ⟨rfl, _⟩ | ⟨_, _, y⟩
      · exact absurd y.symm npq
      · rfl
      · exact absurd y (R.free hq r2)
    · rcases old r2 a h2 with ⟨_, rfl⟩ | ⟨_, rfl⟩ | ⟨_, _, y⟩
      · exact absurd h0 (R.free hp r)
      · exact absurd h0 (R.free hq r)
      · exact R.inj r r2 a h0 y
  · refine k b o (R.fr b o h) ?_ ?_
    · rintro rfl
      exact R.dj _ o .hall h rfl
    · rintro rfl
      exact R.dj _ o .thd h rfl
  · rcases old r b z with ⟨_, rfl⟩ | ⟨_, rfl⟩ | ⟨_, _, y⟩
    · rw [R.ffree hp] at h
      cases h
    · rw [R.ffree hq] at h
      cases h
    · exact R.dj b o r h y
end

/-! ## E. the plans -/
inductive Deed where
  | put (a : Nat) (k : Key) (b : Nat)
  | take (a : Nat) (k : Key)
  | make (a : Nat) (k : Key)
def dV (S : Hs) : Deed → List V
  | .put a k b => [.str "put", S.rf a, kV k, S.rf b]
  | .take a k => [.str "take", S.rf a, kV k]
  | .make a k => [.str "make", S.rf a, kV k]
def dOk (Kn : Nat) : Deed → Prop
  | .put a k b => (1 ≤ a ∧ a ≤ Kn) ∧ k ∈ sixK ∧ (1 ≤ b ∧ b ≤ Kn)
  | .take a k => (1 ≤ a ∧ a ≤ Kn) ∧ k ∈ sixK
  | .make a k => (1 ≤ a ∧ a ≤ Kn) ∧ k ∈ sixK
def PlF (Kn : Nat) (S : Hs) (F : Hp) : Prop := ∀ p, p ∈ S.plans → (1 ≤ p.1 ∧ p.1 ≤ Kn) ∧ ∃ ts : List (Addr × Deed), ts.length ≤ 3 ∧ F p.2 = some (.lst (ts.map fun t => V.ref t.1)) ∧ ∀ t, t ∈ ts → dOk Kn t.2 ∧ F t.1 = some (.tup (dV S t.2))
theorem dV_mo {Kn : Nat} {S S' : Hs} (h : ∀ n, n ≤ Kn → (S'.th n).ad = (S.th n).ad) {d : Deed} (hd : dOk Kn d) : dV S' d = dV S d := by
  have rf : ∀ n, n ≤ Kn → S'.rf n = S.rf n := fun n hn => by unfold Hs.rf; rw [h n hn]
  cases d with
  | put a k b =>
    obtain ⟨h1, _, h2⟩ := hd
    show [_, S'.rf a, _, S'.rf b] = [_, S.rf a, _, S.rf b]
    rw [rf a h1.2, rf b h2.2]
  | take a k =>
    show [_, S'.rf a, _] = [_, S.rf a, _]
    rw [rf a hd.1.2]
  | make a k =>
    show [_, S'.rf a, _] = [_, S.rf a, _]
    rw [rf a hd.1.2]
theorem PlF.mo {Kn : Nat} {S S' : Hs} {F F' : Hp} (P : PlF Kn S F) (h : ∀ n, n ≤ Kn → (S'.th n).ad = (S.th n).ad) (hp : S'.plans = S.plans) (hF : Same F F') : PlF Kn S' F' := fun p hp' => by
  rw [hp] at hp'
  obtain ⟨a, ts, b, c, d⟩ := P p hp'
  refine ⟨a, ts, b, hF _ _ c, fun t ht => ?_⟩
  obtain ⟨d1, d2⟩ := d t ht
  exact ⟨d1, by rw [dV_mo h d1]; exact hF _ _ d2⟩
end Snk
namespace Snk
open PySem L2
/-! ## F. the text by places -/
def top (i : Nat) : Stmt := PySem.Challenge.pw_snakehall_k27_whole_held_or_gone.main.body.getD i (.Pass ⟨0, 0, 0, 0⟩)
abbrev sThing : Stmt := inClass (top 2) 0
abbrev sHall : Stmt := inClass (top 3) 0
abbrev sMake : Stmt := inClass (top 3) 1
abbrev sHold : Stmt := inClass (top 3) 2
abbrev sLoose : Stmt := inClass (top 3) 3
abbrev sPut : Stmt := inClass (top 3) 4
abbrev sTake : Stmt := inClass (top 3) 5
abbrev sThings : Stmt := inClass (top 3) 6
abbrev sGone : Stmt := inClass (top 3) 7
abbrev sLetGo : Stmt := inClass (top 3) 9
abbrev sWork : Stmt := inClass (top 3) 10
abbrev sTurn : Stmt := inClass (top 3) 11
abbrev sAskLast : Stmt := inClass (top 3) 12
abbrev sBeGone : Stmt := inClass (top 3) 13
abbrev sEmpty : Stmt := inClass (top 3) 14
abbrev sEnds : Stmt := inClass (top 4) 0
abbrev sLay : Stmt := inClass (top 4) 1
abbrev sPlan : Stmt := inClass (top 4) 2
abbrev sLast : Stmt := inClass (top 4) 3
abbrev sIsThere : Stmt := inClass (top 4) 4
abbrev sDo : Stmt := inClass (top 4) 5
abbrev sAsked : Stmt := inClass (top 4) 7

/-! ### what the top has left -/
structure Txt (K : PySem.W.Frag) (mg : Str → Option Value) (C CH CE : Addr) : Prop where
  cl : Cls K C
  nForm : NoAttr K C "form"
  nNumber : NoAttr K C "number"
  nCount : NoAttr K C "count"
  nParts : NoAttr K C "parts"
  nOwn : NoAttr K C "own"
  nEnded : NoAttr K C "ended"
  nWaits : NoAttr K C "waits"
  mgT : mg "Thing" = some (.ref C)
  fa : PySem.W.findIn K (.ref C) "__class__" = some (some (.builtin "object.__class__"))
  fn : PySem.W.specialIn K (.builtin "object.__class__") "__get__" = some (some (.builtin "getset_descriptor.__get__"))
  ft : PySem.W.takesIn K (.builtin "object.__class__") = some true
  fm : PySem.W.mroIn K C (.type "object") = some true
  kNon : PySem.W.kitOne K (.type "NoneType") (.ref C) = some false
  kBl : PySem.W.kitOne K (.type "bool") (.ref C) = some false
  kInt : PySem.W.kitOne K (.type "int") (.ref C) = some false
  kStr : PySem.W.kitOne K (.type "str") (.ref C) = some false
  clH : Cls K CH
  nEnder : NoAttr K CH "ender"
  nMany : NoAttr K CH "many"
  nThere : NoAttr K CH "there"
  nLeft : NoAttr K CH "left"
  nRow : NoAttr K CH "row"
  nLasts : NoAttr K CH "lasts"
  clE : Cls K CE
  nHall : NoAttr K CE "hall"
  nPlans : NoAttr K CE "plans"
  nNumbers : NoAttr K CE "numbers"
  nHolds : NoAttr K CE "holds"
  isi : mg "isinstance" = none
  len : mg "len" = none
  list : mg "list" = none
  all : mg "all" = none
  sorted : mg "sorted" = none

section
variable {P : Program} {w : World} {K : PySem.W.Frag} {mg : Str → Option Value} {base : Heap} {C CH CE : Addr}
theorem kThing : PySem.W.kitOne K (.ref C) (.ref C) = some true := if_pos (by simp)
/-- isinstance(v, Thing) -/
theorem isT_no (T : Txt K mg C CH CE) {H : Hp} {v : V} (h : Pln v) : ∃ t, TyX K H v t ∧ PySem.W.kitOne K t (.ref C) = some false := by
  cases v with
  | non => exact ⟨_, .base .non, T.kNon⟩
  | bl b => exact ⟨_, .base (.bl b), T.kBl⟩
  | int i => exact ⟨_, .base (.int i), T.kInt⟩
  | str z => exact ⟨_, .base (.str z), T.kStr⟩
  | byt b => exact h.elim
  | flt b => exact h.elim
  | ref a => exact h.elim
  | ty n => exact h.elim
theorem isT_yes (T : Txt K mg C CH CE) {H : Hp} {a dx : Addr} {fs : List (Str × V)} (h : H a = some (.ins C dx fs)) : TyX K H (.ref a) (.ref C) := .base (.ins h T.cl T.fa T.fn T.ft T.fm)

/-! ### Thing.__init__ -/
def spThing (C : Addr) : Sp := fun vs H Q _ => ∃ (p dx : Addr) (f : Str) (n : Nat), vs = [.ref p, .str f, .int (n : Int), .non] ∧ H p = some (.ins C dx []) ∧
  ∀ (q : Addr) (H' : Hp), H q = none → H' q = some (.dK []) → H' p = some (.ins C dx (tf ⟨p, dx, q, f, 0, [], false, false⟩ n)) → (∀ b o, H b = some o → b ≠ p → H' b = some o) → Q .non H'
theorem scThing : FnScope ["self", "form", "number", "own"] ["self", "form", "number", "own"] (defScope sThing) := ⟨rfl, rfl, rfl, by decide +kernel, rfl, by decide +kernel, by decide +kernel⟩
theorem tf_made (p dx q : Addr) (f : Str) (n : Nat) : putF "waits" (.bl false) (putF "ended" (.bl false) (putF "own" .non (putF "parts" (.ref q) (putF "count" (.int 0) (putF "number" (.int (n : Int)) (putF "form" (.str f) [])))))) = tf ⟨p, dx, q, f, 0, [], false, false⟩ n := by kernel_rfl
theorem tf_l1 (f : Str) : (putF "form" (.str f) []).length < 1000 := by rw [show putF "form" (.str f) [] = [(("form" : Str), V.str f)] from by kernel_rfl]; show 1 < 1000; decide
theorem len_put (f : Str) (v : V) : ∀ (l : List (Str × V)), (putF f v l).length ≤ l.length + 1
  | [] => Nat.le_refl _
  | p :: r => by
    obtain ⟨k, u⟩ := p
    show (if k = f then (k, v) :: r else (k, u) :: putF f v r).length ≤ _
    split
    · exact Nat.le_succ _
    · have := len_put f v r
      show (putF f v r).length + 1 ≤ r.length + 1 + 1
      omega
theorem ok_thing {f : Addr} {fd : FuncData} (F : Fun K "__init__" "Thing.__init__" sThing f fd) (T : Txt K mg C CH CE) : FnOk P w K mg base CX0 1 f fd ["self", "form", "number", "own"] (spThing C) := by
  refine F.ok scThing (fun vs H Q E h => ?_) (fun cdv A outer s H vs Q E hr h => ?_)
  · obtain ⟨p, dx, f, n, rfl, _⟩ := h
    rfl
  obtain ⟨p, dx, f, n, rfl, hp, k⟩ := h
  refine ⟨_, pss_cons (ps_fld (pv 0) (pv 1) rfl) (pss_cons (ps_fld (pv 0) (pv 2) rfl) (pss_cons (ps_fld (pv 0) pe_int rfl) (pss_cons (ps_fld (pv 0) pe_dnewK rfl)
    (pss_cons (ps_fld (pv 0) (pv 3) rfl) (pss_cons (ps_fld (pv 0) pe_bl rfl) (pss_one (ps_fld (pv 0) pe_bl rfl))))))), ?_⟩
  have l1 : (putF "form" (.str f) []).length ≤ 1 := len_put _ _ _
  refine ⟨_, rfl, _, rfl, p, C, dx, [], rfl, hp, T.cl, T.nForm, (by show 0 < 1000; decide), ?_⟩
  refine ⟨_, rfl, _, rfl, p, C, dx, _, rfl, upd_same, T.cl, T.nNumber, (by omega), ?_⟩
  have l2 := len_put "number" (.int (n : Int)) (putF "form" (.str f) [])
  refine ⟨_, rfl, p, C, dx, _, rfl, upd_same, T.cl, T.nCount, (by omega), ?_⟩
  have l3 := len_put "count" (.int 0) (putF "number" (.int (n : Int)) (putF "form" (.str f) []))
  intro q hq
  have npq : p ≠ q := ne_of_none upd_same hq
  have hq0 : H q = none := by
    rw [upd_ne npq.symm, upd_ne npq.symm, upd_ne npq.symm] at hq
    exact hq
  refine ⟨_, rfl, p, C, dx, _, rfl, (by rw [upd_ne npq]; exact upd_same), T.cl, T.nParts, (by omega), ?_⟩
  have l4 := len_put "parts" (.ref q) (putF "count" (.int 0) (putF "number" (.int (n : Int)) (putF "form" (.str f) [])))
  refine ⟨_, rfl, _, rfl, p, C, dx, _, rfl, upd_same, T.cl, T.nOwn, (by omega), ?_⟩
  have l5 := len_put "own" .non (putF "parts" (.ref q) (putF "count" (.int 0) (putF "number" (.int (n : Int)) (putF "form" (.str f) []))))
  refine ⟨_, rfl, p, C, dx, _, rfl, upd_same, T.cl, T.nEnded, (by omega), ?_⟩
  have l6 := len_put "ended" (.bl false) (putF "own" .non (putF "parts" (.ref q) (putF "count" (.int 0) (putF "number" (.int (n : Int)) (putF "form" (.str f) [])))))
  refine ⟨_, rfl, p, C, dx, _, rfl, upd_same, T.cl, T.nWaits, (by omega), ?_⟩
  refine k q _ hq0 ?_ ?_ fun b o hb hne => ?_
  · rw [upd_ne npq.symm, upd_ne npq.symm, upd_ne npq.symm, upd_ne npq.symm, upd_same]
  · rw [upd_same, tf_made p dx]
  · rw [upd_ne hne, upd_ne hne, upd_ne hne, upd_ne hne, upd_ne (ne_of_none hb hq0), upd_ne hne, upd_ne hne, upd_ne hne]
    exact hb

/-! ### Hall.hold -/
def spHold (C : Addr) : Sp := fun vs H Q _ => ∃ (W : Wd) (S : Hs) (F : Hp) (v : V), W.C = C ∧ vs = [.ref W.h, v] ∧ Rep W S F H ∧
  ((Pln v ∧ ∀ H', Rep W S F H' → Q .non H') ∨ ∃ n, v = S.rf n ∧ (1 ≤ n ∧ n ≤ S.many) ∧ ∀ H', Rep W (S.cn n ((S.th n).count + 1)) F H' → Q .non H')
theorem scHold : FnScope ["self", "value"] ["self", "value"] (defScope sHold) := ⟨rfl, rfl, rfl, by decide +kernel, rfl, by decide +kernel, by decide +kernel⟩
theorem tf_len (t : Th) (n : Nat) : (tf t n).length < 1000 := by show 7 < 1000; decide
theorem hf_len (W : Wd) (S : Hs) : (hf W S).length < 1000 := by show 6 < 1000; decide
theorem ok_hold {f : Addr} {fd : FuncData} (F : Fun K "hold" "Hall.hold" sHold f fd) (T : Txt K mg C CH CE) : FnOk P w K mg base CX0 1 f fd ["self", "value"] (spHold C) := by
  refine F.ok scHold (fun vs H Q E h => ?_) (fun cdv A outer s H vs Q E hr h => ?_)
  · obtain ⟨W, S, F, v, _, rfl, _⟩ := h
    rfl
  obtain ⟨W, S, F, v, rfl, rfl, R, h⟩ := h
  refine ⟨_, pss_one (ps_if (pt_val (pe_callB call_isi (by rfl) T.isi (by decide +kernel) (pa_cons (pv 1) (pa_cons (pe_glob (v := .ref W.C) rfl T.mgT rfl) pa_nil)))) (pss_one (ps_fldaug (pv 1) pe_int in_add)) pss_nil), ?_⟩
  rcases h with ⟨pl, k⟩ | ⟨n, rfl, hn, k⟩
  · obtain ⟨t, ty, e⟩ := isT_no T (H := H) pl
    refine ⟨_, rfl, _, _, _, _, false, rfl, .own W.C, ty, e, _, rfl, ?_⟩
    refine iteF ?_
    exact k _ R
  · refine ⟨_, rfl, _, _, _, _, true, rfl, .own W.C, isT_yes T (R.th hn), kThing, _, rfl, ?_⟩
    refine iteT ?_
    refine ⟨_, rfl, _, W.C, _, _, _, rfl, R.th hn, T.cl, T.nCount, tf_count _ _, _, _, rfl, rfl, _, _, R.th hn, tf_len _ _, ?_⟩
    exact k _ (R.cn hn _)
end
end Snk
namespace Snk
open PySem L2
/-! ## G. the row at work: nothing here calls itself -/
/-- a hold less, where a row is there -/
def Hs.lsA (S : Hs) (n : Nat) (r : Addr) : Hs :=
  if (S.th n).count - 1 = 0 ∧ (S.th n).waits = false then (S.cn n ((S.th n).count - 1)).lay n r else S.cn n ((S.th n).count - 1)
section
variable {Kn : Nat} {S : Hs} {ext : List V} {act sus : List Nat} {x n : Nat}
theorem cn_waits (S : Hs) (n : Nat) (c : Int) (m : Nat) : ((S.cn n c).th m).waits = (S.th m).waits := waits_set (by rfl) m
theorem cn_count (S : Hs) (n : Nat) (c : Int) : ((S.cn n c).th n).count = c := by
  show ((S.set n _).th n).count = c
  rw [set_same]
theorem inv_lsA (h : Inv Kn S (S.rf n :: ext) act sus 0) (hn : n ∈ S.there) (r : Addr) : Inv Kn (S.lsA n r) ext act sus 0 := by
  have q := inv_dec h hn
  unfold Hs.lsA
  by_cases c : (S.th n).count - 1 = 0
  · rw [if_pos c] at q
    by_cases w : (S.th n).waits = false
    · rw [if_pos ⟨c, w⟩]
      exact inv_lay q hn (by rw [cn_count]; exact c) (by rw [cn_waits]; exact w) r
    · rw [if_neg fun z => w z.2]
      refine inv_exc q (.inr (.inl ((q.wv n hn).mp ?_)))
      rw [cn_waits]
      cases e : (S.th n).waits with
      | true => rfl
      | false => exact absurd e w
  · rw [if_neg fun z => c z.1]
    rw [if_neg c] at q
    exact q
theorem lsA_row {r : Addr} {l : List Nat} (hr : S.row = some (r, l)) : ∃ l2, (S.lsA n r).row = some (r, l ++ l2) := by
  unfold Hs.lsA
  split
  · refine ⟨[n], ?_⟩
    have : (S.cn n ((S.th n).count - 1)).rl = l := by
      show S.rl = l
      unfold Hs.rl
      rw [hr]
    show some (r, (S.cn n ((S.th n).count - 1)).rl ++ [n]) = _
    rw [this]
  · exact ⟨[], by rw [List.append_nil]; exact hr⟩
theorem lsA_there (r : Addr) : (S.lsA n r).there = S.there := by unfold Hs.lsA; split <;> rfl
theorem lsA_many (r : Addr) : (S.lsA n r).many = S.many := by unfold Hs.lsA; split <;> rfl
theorem lsA_plans (r : Addr) : (S.lsA n r).plans = S.plans := by unfold Hs.lsA; split <;> rfl
theorem lsA_ended (r : Addr) (m : Nat) : ((S.lsA n r).th m).ended = (S.th m).ended := by
  have e1 : ∀ (S : Hs) c, ((S.cn n c).th m).ended = (S.th m).ended := fun S c => ended_set (by rfl) m
  have e2 : ∀ (S : Hs) b, ((S.wt n b).th m).ended = (S.th m).ended := fun S b => ended_set (by rfl) m
  unfold Hs.lsA
  split
  · exact (e2 _ true).trans (e1 _ _)
  · exact e1 _ _
theorem lsA_ad (r : Addr) (m : Nat) : ((S.lsA n r).th m).ad = (S.th m).ad := by
  have e1 : ∀ (S : Hs) c, ((S.cn n c).th m).ad = (S.th m).ad := fun S c => ad_set (by rfl) m
  have e2 : ∀ (S : Hs) b, ((S.wt n b).th m).ad = (S.th m).ad := fun S b => ad_set (by rfl) m
  unfold Hs.lsA
  split
  · exact (e2 _ true).trans (e1 _ _)
  · exact e1 _ _
theorem lsA_parts (r : Addr) (m : Nat) : ((S.lsA n r).th m).parts = (S.th m).parts := by
  have e1 : ∀ (S : Hs) c, ((S.cn n c).th m).parts = (S.th m).parts := fun S c => parts_set (by rfl) m
  have e2 : ∀ (S : Hs) b, ((S.wt n b).th m).parts = (S.th m).parts := fun S b => parts_set (by rfl) m
  unfold Hs.lsA
  split
  · exact (e2 _ true).trans (e1 _ _)
  · exact e1 _ _
theorem lsA_mo (r : Addr) : Mo Kn 0 S (S.lsA n r) := by
  have u : unE Kn (S.lsA n r) = unE Kn S := unE_same (lsA_ended r)
  exact ⟨Nat.le_of_eq (lsA_many r).symm, fun m _ => lsA_ad r m, lsA_plans r, Nat.le_of_eq u, by rw [u, lsA_many]; exact Nat.le_refl _, fun m _ e => by rw [lsA_ended]; exact e⟩
theorem set_comm (S : Hs) {n m : Nat} (h : n ≠ m) (t u : Th) : (S.set n t).set m u = (S.set m u).set n t := by
  show ({ S with th := _ } : Hs) = { S with th := _ }
  congr 1
  funext k
  show (if k = m then u else if k = n then t else S.th k) = (if k = n then t else if k = m then u else S.th k)
  by_cases e : k = m
  · subst e
    rw [if_pos rfl, if_neg (Ne.symm h), if_pos rfl]
  · rw [if_neg e, if_neg e]
theorem set_set (S : Hs) (n : Nat) (t u : Th) : (S.set n t).set n u = S.set n u := by
  show ({ S with th := _ } : Hs) = { S with th := _ }
  congr 1
  funext k
  show (if k = n then u else if k = n then t else S.th k) = (if k = n then u else S.th k)
  split <;> rfl
theorem pts_pts (S : Hs) (n : Nat) (a b : List (Key × V)) : (S.pts n a).pts n b = S.pts n b := by
  unfold Hs.pts
  rw [set_set, set_same]
theorem pts_lsA {m : Nat} (h : n ≠ m) (r : Addr) (ps : List (Key × V)) : (S.lsA n r).pts m ps = (S.pts m ps).lsA n r := by
  have e : (S.pts m ps).th n = S.th n := set_ne _ _ _ h
  have e1 : ∀ c, (S.cn n c).pts m ps = (S.pts m ps).cn n c := fun c => by
    unfold Hs.cn Hs.pts
    rw [set_ne _ _ _ (Ne.symm h), set_ne _ _ _ h, set_comm S h]
  have e2 : ∀ S : Hs, (S.lay n r).pts m ps = (S.pts m ps).lay n r := fun S => by
    have z : (S.wt n true).pts m ps = (S.pts m ps).wt n true := by
      unfold Hs.wt Hs.pts
      rw [set_ne _ _ _ (Ne.symm h), set_ne _ _ _ h, set_comm S h]
    have a1 : (S.lay n r).pts m ps = { ((S.wt n true).pts m ps) with row := some (r, S.rl ++ [n]) } := rfl
    have a2 : (S.pts m ps).lay n r = { ((S.pts m ps).wt n true) with row := some (r, S.rl ++ [n]) } := rfl
    rw [a1, a2, z]
  unfold Hs.lsA
  rw [e]
  split
  · rw [e2, e1]
  · exact e1 _
theorem thKvs_get (hn : n ∈ S.there) : valV (thKvs S) (Sum.inl (n : Int)) = some (S.rf n) := by
  have : ∀ T : List Nat, n ∈ T → valV (T.map fun k : Nat => ((Sum.inl (k : Int) : Key), S.rf k)) (Sum.inl (n : Int)) = some (S.rf n) := by
    intro T
    induction T with
    | nil => intro z; cases z
    | cons a r ih =>
      intro z
      rw [List.map_cons]
      by_cases e : a = n
      · subst e
        exact valV_pos rfl
      · rw [valV_neg fun q => e (by have := Sum.inl.inj q; omega)]
        exact ih ((List.mem_cons.mp z).resolve_left fun q => e q.symm)
  exact this S.there hn
theorem thKvs_has (hn : n ∈ S.there) : (valV (thKvs S) (Sum.inl (n : Int))).isSome = true := by
  rw [← valV_any]
  exact List.any_eq_true.mpr ⟨((Sum.inl (n : Int) : Key), S.rf n), List.mem_map.mpr ⟨n, hn, rfl⟩, decide_eq_true rfl⟩
theorem thKvs_no (hn : ¬ n ∈ S.there) : valV (thKvs S) (Sum.inl (n : Int)) = none := by
  cases e : valV (thKvs S) (Sum.inl (n : Int)) with
  | none => rfl
  | some v =>
    obtain ⟨kv, h1, _, h2⟩ := valV_mem e
    obtain ⟨k, hk, rfl⟩ := List.mem_map.mp h1
    have := Sum.inl.inj h2
    have : k = n := by omega
    exact absurd (this ▸ hk) hn
theorem thKvs_drop (S : Hs) (n : Nat) : dropK (thKvs S) (Sum.inl (n : Int)) = (S.there.filter fun m => decide (m ≠ n)).map fun k : Nat => ((Sum.inl (k : Int) : Key), S.rf k) := by
  unfold dropK thKvs
  rw [List.filter_map]
  congr 1
  refine List.filter_congr fun k _ => ?_
  show decide ((Sum.inl (k : Int) : Key) ≠ Sum.inl (n : Int)) = decide (k ≠ n)
  by_cases e : k = n
  · subst e; simp
  · have : ¬ ((Sum.inl (k : Int) : Key) = Sum.inl (n : Int)) := fun q => e (by have := Sum.inl.inj q; omega)
    simp [this, e]
end

section
variable {P : Program} {w : World} {K : PySem.W.Frag} {mg : Str → Option Value} {base : Heap} {C CH CE : Addr}
/-- a Hall's method's self -/
structure IsW (W : Wd) (C CH CE : Addr) : Prop where
  c : W.C = C
  h : W.CH = CH
  e : W.CE = CE
/-! ### let_go where a row is there -/
def spLetGoA (C CH CE : Addr) : Sp := fun vs H Q _ => ∃ (W : Wd) (S : Hs) (F : Hp) (n : Nat) (r : Addr) (l : List Nat), IsW W C CH CE ∧ vs = [.ref W.h, S.rf n] ∧ Rep W S F H ∧ (1 ≤ n ∧ n ≤ S.many) ∧ n ∈ S.there ∧ S.row = some (r, l) ∧ l.length < 1000 ∧
  ∀ H', Rep W (if (S.th n).waits = false then S.lay n r else S) F H' → Q .non H'
theorem scLetGo : FnScope ["self", "thing"] ["self", "thing"] (defScope sLetGo) := ⟨rfl, rfl, rfl, by decide +kernel, rfl, by decide +kernel, by decide +kernel⟩
theorem ok_letgoA {f : Addr} {fd : FuncData} (F : Fun K "let_go" "Hall.let_go" sLetGo f fd) (T : Txt K mg C CH CE) : FnOk P w K mg base CX0 1 f fd ["self", "thing"] (spLetGoA C CH CE) := by
  refine F.ok scLetGo (fun vs H Q E h => ?_) (fun cdv A outer s H vs Q E hr h => ?_)
  · obtain ⟨W, S, F, n, r, l, _, rfl, _⟩ := h
    rfl
  obtain ⟨W, S, F, n, r, l, ⟨rfl, rfl, rfl⟩, rfl, R, hn, hT, hrow, hl, k⟩ := h
  have hu := hu_of hr
  refine ⟨_, pss_cons (ps_if (PW.pt (pw_or (pt_val (pe_fld (pv 1) rfl)) (pw_or1 (pt_cmp (pc_dnotin hu (pe_fld (pv 1) rfl) (pe_fld (pv 0) rfl)))))) (pss_one ps_retN) pss_nil)
    (pss_cons (ps_fld (pv 1) pe_bl rfl)
    (pss_one (ps_if (pt_cmp (pc_isN (pe_fld (pv 0) rfl))) pss_never
      (pss_one (ps_expr (pe_bm PySem.F.plainAttrs_list PySem.F.slot_list_append PySem.F.type_list_append mt_append (pe_fld (pv 0) rfl) (pa_cons (pv 1) pa_nil))))))), ?_⟩
  refine ⟨_, rfl, _, W.C, _, _, _, rfl, R.th hn, T.cl, T.nWaits, tf_waits _ _, _, rfl, ?_⟩
  cases hw : (S.th n).waits with
  | true =>
    refine iteT (iteT ?_)
    rw [hw] at k
    exact k H R
  | false =>
    refine iteF ?_
    rw [hw] at k
    have h0 := thKvs_has hT
    refine ⟨_, rfl, _, W.C, _, _, _, rfl, R.th hn, T.cl, T.nNumber, tf_number _ _, _, rfl, _, W.CH, _, _, _, rfl, R.hall, T.clH, T.nThere, hf_there _ _, _, _, rfl, DGet.k (k := Sum.inl (n : Int)) R.thd, _, rfl, ?_⟩
    rw [h0]
    refine iteF ?_
    refine ⟨_, rfl, _, W.C, _, _, rfl, R.th hn, T.cl, T.nWaits, tf_len _ _, ?_⟩
    have R1 := R.wt hn true
    refine ⟨_, rfl, _, W.CH, _, _, _, rfl, R1.hall, T.clH, T.nRow, hf_row _ _, _, rfl, ?_⟩
    have e : rowV (S.wt n true) = .ref r := by
      show rowO S.row = _
      rw [hrow]
      rfl
    rw [e]
    refine iteF ?_
    have hr1 : (S.wt n true).row = some (r, l) := hrow
    have hL := R1.row hr1
    refine ⟨_, rfl, _, W.CH, _, _, _, rfl, R1.hall, T.clH, T.nRow, hf_row _ _, ?_⟩
    rw [e]
    refine ⟨.inl ⟨rfl, _, SqL.of hL⟩, _, rfl, r, _, _, rfl, rfl, hL, ?_, ?_⟩
    · rw [List.length_map]
      exact small1000 (Nat.le_of_lt hl)
    · refine k _ ?_
      have R2 := R1.rowl hr1 (l' := l ++ [n])
      rw [List.map_append] at R2
      have e2 : ({ S.wt n true with row := some (r, l ++ [n]) } : Hs) = S.lay n r := by
        unfold Hs.lay Hs.rl
        rw [hrow]
      rw [e2] at R2
      have e3 : S.rf n = (S.wt n true).rf n := (rf_set (by rfl) n).symm
      rw [e3]
      exact R2

/-! ### loose where a row is there -/
def spLooseA (C CH CE : Addr) : Sp := fun vs H Q _ => ∃ (W : Wd) (S : Hs) (F : Hp) (v : V) (r : Addr) (l : List Nat), IsW W C CH CE ∧ vs = [.ref W.h, v] ∧ Rep W S F H ∧ S.row = some (r, l) ∧ l.length < 1000 ∧
  ((Pln v ∧ ∀ H', Rep W S F H' → Q .non H') ∨ ∃ n, v = S.rf n ∧ (1 ≤ n ∧ n ≤ S.many) ∧ n ∈ S.there ∧ ∀ H', Rep W (S.lsA n r) F H' → Q .non H')
theorem scLoose : FnScope ["self", "value"] ["self", "value"] (defScope sLoose) := ⟨rfl, rfl, rfl, by decide +kernel, rfl, by decide +kernel, by decide +kernel⟩
theorem ok_looseA {f g : Addr} {fd gd : FuncData} (F : Fun K "loose" "Hall.loose" sLoose f fd) (T : Txt K mg C CH CE) (FG : Fun K "let_go" "Hall.let_go" sLetGo g gd) (bG : Binds K gd ["self", "thing"] []) (mG : Meth K CH "let_go" g) :
    FnOk P w K mg base CX0 2 f fd ["self", "value"] (spLooseA C CH CE) := by
  have G : FnOk P w K mg base CX0 1 g gd ["self", "thing"] (spLetGoA C CH CE) := ok_letgoA FG T
  refine F.ok scLoose (fun vs H Q E h => ?_) (fun cdv A outer s H vs Q E hr h => ?_)
  · obtain ⟨W, S, F, v, r, l, _, rfl, _⟩ := h
    rfl
  obtain ⟨W, S, F, v, r, l, ⟨rfl, rfl, rfl⟩, rfl, R, hrow, hl, h⟩ := h
  refine ⟨_, pss_one (ps_if (pt_val (pe_callB call_isi (by rfl) T.isi (by decide +kernel) (pa_cons (pv 1) (pa_cons (pe_glob (v := .ref W.C) rfl T.mgT rfl) pa_nil))))
    (pss_cons (ps_fldaug (pv 1) pe_int in_sub) (pss_one (ps_if (pt_cmpR op_eq (pe_fld (pv 1) rfl) pe_int (nomark _)) (pss_one (ps_expr (pe_meth (pv 0) T.clH mG G hr bG .nil pass0 (pa_cons (pv 1) pa_nil)))) pss_nil))) pss_nil), ?_⟩
  rcases h with ⟨pl, k⟩ | ⟨n, rfl, hn, hT, k⟩
  · obtain ⟨t, ty, e⟩ := isT_no T (H := H) pl
    refine ⟨_, rfl, _, _, _, _, false, rfl, .own W.C, ty, e, _, rfl, ?_⟩
    refine iteF ?_
    exact k _ R
  · refine ⟨_, rfl, _, _, _, _, true, rfl, .own W.C, isT_yes T (R.th hn), kThing, _, rfl, ?_⟩
    refine iteT ?_
    refine ⟨_, rfl, _, W.C, _, _, _, rfl, R.th hn, T.cl, T.nCount, tf_count _ _, _, _, rfl, rfl, _, _, R.th hn, tf_len _ _, ?_⟩
    have R1 := R.cn hn ((S.th n).count - 1)
    have ead : ((S.cn n ((S.th n).count - 1)).th n).ad = (S.th n).ad := ad_set (by rfl) n
    have q1 := R1.th (n := n) hn
    rw [ead] at q1
    refine ⟨_, rfl, _, W.C, _, _, _, rfl, q1, T.cl, T.nCount, tf_count _ _, rfl, _, rfl, ?_⟩
    rw [cn_count]
    by_cases c : (S.th n).count - 1 = 0
    · rw [c]
      rw [c] at R1
      refine iteT ?_
      refine ⟨_, rfl, _, _, _, rfl, R1.hall, hf_no_let_go _ _, _, rfl, W, S.cn n 0, F, n, r, l, ⟨rfl, rfl, rfl⟩, ?_, R1, hn, hT, hrow, hl, fun H' R2 => k H' ?_⟩
      · show [V.ref W.h, S.rf n] = [V.ref W.h, (S.cn n 0).rf n]
        rw [show (S.cn n 0).rf n = S.rf n from rf_set (by rfl) n]
      · rw [cn_waits] at R2
        unfold Hs.lsA
        rw [c]
        by_cases hw : (S.th n).waits = false
        · rw [if_pos hw] at R2
          rw [if_pos ⟨rfl, hw⟩]
          exact R2
        · rw [if_neg hw] at R2
          rw [if_neg fun z => hw z.2]
          exact R2
    · have e : decide (V.int ((S.th n).count - 1) = V.int 0) = false := decide_eq_false fun z => c (V.int.inj z)
      rw [e]
      refine iteF ?_
      refine k _ ?_
      unfold Hs.lsA
      rw [if_neg fun z => c z.1]
      exact R1
end
end Snk
namespace Snk
open PySem L2
section
variable {P : Program} {w : World} {K : PySem.W.Frag} {mg : Str → Option Value} {base : Heap} {C CH CE : Addr}
/-! ### be_gone -/
def spBeGone (C CH CE : Addr) : Sp := fun vs H Q _ => ∃ (W : Wd) (S : Hs) (F : Hp) (n : Nat), IsW W C CH CE ∧ vs = [.ref W.h, S.rf n] ∧ Rep W S F H ∧ (1 ≤ n ∧ n ≤ S.many) ∧ n ∈ S.there ∧ S.left.length < 1000 ∧
  ∀ H', Rep W (S.goes n) F H' → Q .non H'
theorem scBeGone : FnScope ["self", "thing"] ["self", "thing"] (defScope sBeGone) := ⟨rfl, rfl, rfl, by decide +kernel, rfl, by decide +kernel, by decide +kernel⟩
theorem ok_begone {f : Addr} {fd : FuncData} (F : Fun K "be_gone" "Hall.be_gone" sBeGone f fd) (T : Txt K mg C CH CE) : FnOk P w K mg base CX0 1 f fd ["self", "thing"] (spBeGone C CH CE) := by
  refine F.ok scBeGone (fun vs H Q E h => ?_) (fun cdv A outer s H vs Q E hr h => ?_)
  · obtain ⟨W, S, F, n, _, rfl, _⟩ := h
    rfl
  obtain ⟨W, S, F, n, ⟨rfl, rfl, rfl⟩, rfl, R, hn, hT, hl, k⟩ := h
  refine ⟨_, pss_cons (ps_expr (pe_dpop1 (pe_fld (pv 0) rfl) (pe_fld (pv 1) rfl) ⟨rfl, rfl, rfl, rfl⟩))
    (pss_one (ps_expr (pe_bm PySem.F.plainAttrs_list PySem.F.slot_list_append PySem.F.type_list_append mt_append (pe_fld (pv 0) rfl) (pa_cons (pe_fld (pv 1) rfl) pa_nil)))), ?_⟩
  refine ⟨_, rfl, _, W.CH, _, _, _, rfl, R.hall, T.clH, T.nThere, hf_there _ _, _, rfl, .inl ⟨_, .inl R.thd⟩, _, rfl, _, W.C, _, _, _, rfl, R.th hn, T.cl, T.nNumber, tf_number _ _, _, Sum.inl (n : Int), _, R.thd, rfl, thKvs_get hT, ?_⟩
  have R1 := R.thw (S.there.filter fun m => decide (m ≠ n))
  rw [← thKvs_drop] at R1
  refine ⟨_, rfl, _, W.CH, _, _, _, rfl, R1.hall, T.clH, T.nLeft, hf_left _ _, .inl ⟨rfl, _, SqL.of R1.lf⟩, _, rfl, _, W.C, _, _, _, rfl, R1.th hn, T.cl, T.nNumber, tf_number _ _, _, _, _, rfl, rfl, R1.lf, ?_, ?_⟩
  · show (S.left.map _).length < sizeLine
    rw [List.length_map]
    exact small1000 (Nat.le_of_lt hl)
  · refine k _ ?_
    have R2 := R1.lfw (S.left ++ [n])
    have e : natV (S.left ++ [n]) = natV S.left ++ [V.int (n : Int)] := by
      unfold natV
      rw [List.map_append]
      rfl
    rw [e] at R2
    exact R2

/-! ### empty -/
def spEmpty (C CH CE : Addr) : Sp := fun vs H Q _ => ∃ (W : Wd) (S : Hs) (F : Hp) (n Kn : Nat) (ext : List V) (act sus : List Nat) (r : Addr) (l : List Nat), IsW W C CH CE ∧ vs = [.ref W.h, S.rf n] ∧ Rep W S F H ∧ (1 ≤ n ∧ n ≤ S.many) ∧ ¬ n ∈ S.there ∧
  S.row = some (r, l) ∧ ((S.th n).parts.map (·.1)).Nodup ∧ (S.th n).parts.length ≤ 6 ∧ Kn ≤ 12 ∧ Inv Kn (S.pts n []) ((S.th n).parts.map (·.2) ++ ext) act sus 0 ∧
  ∀ S' H', Rep W S' F H' → Inv Kn S' ext act sus 0 → Mo Kn 0 S S' → S'.there = S.there → (∃ l2, S'.row = some (r, l ++ l2)) → Q .non H'
theorem scEmpty : FnScope ["self", "thing", "key"] ["self", "thing"] (defScope sEmpty) := ⟨rfl, rfl, rfl, by decide +kernel, rfl, by decide +kernel, by decide +kernel⟩
theorem pts_same (S : Hs) (n : Nat) (ps : List (Key × V)) : ((S.pts n ps).th n).parts = ps := by
  show ((S.set n _).th n).parts = ps
  rw [set_same]
theorem pts_mo {Kn : Nat} (S : Hs) (n : Nat) (ps : List (Key × V)) : Mo Kn 0 S (S.pts n ps) := by
  have u : unE Kn (S.pts n ps) = unE Kn S := unE_same fun m => ended_set (by rfl) m
  exact ⟨Nat.le_refl _, fun m _ => ad_set (by rfl) m, rfl, Nat.le_of_eq u, by rw [u]; exact Nat.le_refl _, fun m _ e => by rw [show ((S.pts n ps).th m).ended = (S.th m).ended from ended_set (by rfl) m]; exact e⟩
theorem pts_self (S : Hs) (n : Nat) {ps : List (Key × V)} (h : (S.th n).parts = ps) : S.pts n ps = S := by
  subst h
  show ({ S with th := _ } : Hs) = S
  have : (fun m => if m = n then { S.th n with parts := (S.th n).parts } else S.th m) = S.th := funext fun m => by
    by_cases e : m = n
    · rw [if_pos e, e]
    · rw [if_neg e]
  rw [this]
theorem ok_empty {f g d : Addr} {fd gd dd : FuncData} (F : Fun K "empty" "Hall.empty" sEmpty f fd) (T : Txt K mg C CH CE) (FL : Fun K "loose" "Hall.loose" sLoose d dd) (bL : Binds K dd ["self", "value"] []) (mL : Meth K CH "loose" d)
    (FG : Fun K "let_go" "Hall.let_go" sLetGo g gd) (bG : Binds K gd ["self", "thing"] []) (mG : Meth K CH "let_go" g) : FnOk P w K mg base CX0 3 f fd ["self", "thing"] (spEmpty C CH CE) := by
  have L : FnOk P w K mg base CX0 2 d dd ["self", "value"] (spLooseA C CH CE) := ok_looseA FL T FG bG mG
  refine F.ok scEmpty (fun vs H Q E h => ?_) (fun cdv A outer s H vs Q E hr h => ?_)
  · obtain ⟨W, S, F, n, Kn, ext, act, sus, r, l, _, rfl, _⟩ := h
    rfl
  obtain ⟨W, S, F, n, Kn, ext, act, sus, r, l, ⟨rfl, rfl, rfl⟩, rfl, R, hn, hnT, hrow, hnd, hp6, hK, I, k⟩ := h
  refine ⟨_, pss_one (ps_for PassesOwn.never rfl (pi_list (pe_callTy (call_listD rfl) (by rfl) T.list (by decide +kernel) (pa_cons (pe_fld (pv 1) rfl) pa_nil))) (pg_name (i := 2) scEmpty.nd rfl (Or.inl rfl))
    (pss_one (ps_expr (pe_meth (pv 0) T.clH mL L hr bL .nil pass0 (pa_cons (pe_dpop1 (pe_fld (pv 1) rfl) (pv 2) ⟨rfl, rfl, rfl, rfl⟩) pa_nil))))), ?_⟩
  have hP := R.pd hn
  refine ⟨_, rfl, _, W.C, _, _, _, rfl, R.th hn, T.cl, T.nParts, tf_parts _ _, _, _, rfl, .inl hP, fun a ha => ⟨a, rfl, ⟨_, SqL.of upd_same⟩, ?_⟩⟩
  have R0 := R.fnew ha (.lst ((S.th n).parts.map fun kv => kV kv.1))
  have ha0 : F a = none := R.ffree ha
  refine for_list (K := K) (a := a) (xs := (S.th n).parts.map fun kv => kV kv.1) (fun i σ H' => ∃ (S' : Hs) (v : Option V), σ = [some (.ref W.h), some (S.rf n), v] ∧ Rep W S' (upd F a (.lst ((S.th n).parts.map fun kv => kV kv.1))) H' ∧
      (S'.th n).parts = (S.th n).parts.drop i ∧ Inv Kn (S'.pts n []) (((S.th n).parts.drop i).map (·.2) ++ ext) act sus 0 ∧ Mo Kn 0 S S' ∧ S'.there = S.there ∧ (∃ l2, S'.row = some (r, l ++ l2)))
    ⟨S, none, rfl, R0, rfl, I, Mo.refl S, rfl, [], by rw [List.append_nil]; exact hrow⟩ (fun i σ H' _ ⟨S', v, _, R', _⟩ => SqL.of (R'.fr _ _ upd_same)) ?_ ?_
  · rintro i y σ H' hi ⟨S', v, rfl, R', hps, I', M', hT', l2, hrow'⟩
    rw [List.getElem?_map] at hi
    cases e : (S.th n).parts[i]? with
    | none =>
      rw [e] at hi
      cases hi
    | some kv =>
      rw [e] at hi
      have hy : kV kv.1 = y := Option.some.inj hi
      subst hy
      obtain ⟨hlt, hget⟩ := List.getElem?_eq_some_iff.mp e
      have hdrop : (S.th n).parts.drop i = kv :: (S.th n).parts.drop (i + 1) := by
        rw [← hget]
        exact List.drop_eq_getElem_cons hlt
      have hnd' : (((S.th n).parts.drop i).map (·.1)).Nodup := by
        rw [List.map_drop]
        exact hnd.sublist (List.drop_sublist _ _)
      have hv : valV (S'.th n).parts kv.1 = some kv.2 := by
        rw [hps, hdrop]
        exact valV_pos rfl
      have hnd2 : ¬ kv.1 ∈ ((S.th n).parts.drop (i + 1)).map (·.1) := by
        rw [hdrop] at hnd'
        exact (List.nodup_cons.mp hnd').1
      have hdr : dropK (S'.th n).parts kv.1 = (S.th n).parts.drop (i + 1) := by
        rw [hps, hdrop, dropK_pos rfl, dropK_no hnd2]
      have hn' : 1 ≤ n ∧ n ≤ S'.many := ⟨hn.1, Nat.le_trans hn.2 M'.many⟩
      have ead : (S'.th n).ad = (S.th n).ad := M'.ad n hn.2
      have hth := R'.th hn'
      rw [ead] at hth
      have hpd := R'.pd hn'
      refine ⟨_, rfl, _, _, _, rfl, R'.hall, hf_no_loose _ _, _, rfl, _, W.C, _, _, _, rfl, hth, T.cl, T.nParts, tf_parts _ _, _, rfl, .inl ⟨_, .inl hpd⟩, _, rfl, _, kv.1, kv.2, hpd, rfl, hv, ?_⟩
      rw [hdr]
      have R2 := R'.pts hn' ((S.th n).parts.drop (i + 1))
      rw [hdrop] at I'
      have I2 : Inv Kn (S'.pts n []) (kv.2 :: (((S.th n).parts.drop (i + 1)).map (·.2) ++ ext)) act sus 0 := I'
      have M2 : Mo Kn 0 S (S'.pts n ((S.th n).parts.drop (i + 1))) := M'.trans (pts_mo _ _ _)
      have hlen : (l ++ l2).length < 1000 := by
        have q := I2.rlen
        have e0 : (S'.pts n []).rl = l ++ l2 := by
          show S'.rl = _
          unfold Hs.rl
          rw [hrow']
        rw [e0] at q
        have := I2.many_le
        omega
      refine ⟨W, S'.pts n ((S.th n).parts.drop (i + 1)), _, kv.2, r, l ++ l2, ⟨rfl, rfl, rfl⟩, rfl, R2, hrow', hlen, ?_⟩
      rcases I2.ev kv.2 List.mem_cons_self with pl | ⟨m, hm, em⟩
      · refine .inl ⟨pl, fun H3 R3 => ?_⟩
        refine ⟨_, _, rfl, R3, pts_same _ _ _, ?_, M2, hT', l2, hrow'⟩
        rw [pts_pts]
        exact inv_unplain I2 pl
      · have hm' : m ∈ S'.there := hm
        have erf : (S'.pts n []).rf m = S'.rf m := rf_set (by rfl) m
        have erf2 : (S'.pts n ((S.th n).parts.drop (i + 1))).rf m = S'.rf m := rf_set (by rfl) m
        have hne : m ≠ n := by
          rintro rfl
          rw [hT'] at hm'
          exact hnT hm'
        refine .inr ⟨m, by rw [em, erf, erf2], I2.rng hm, hm, fun H3 R3 => ?_⟩
        obtain ⟨l3, h3⟩ := lsA_row (S := S'.pts n ((S.th n).parts.drop (i + 1))) (n := m) hrow'
        refine ⟨_, _, rfl, R3, ?_, ?_, M2.trans (lsA_mo r), (lsA_there r).trans hT', l2 ++ l3, by rw [← List.append_assoc]; exact h3⟩
        · rw [lsA_parts]
          exact pts_same _ _ _
        · rw [pts_lsA hne, pts_pts]
          rw [em] at I2
          exact inv_lsA I2 hm r
  · rintro σ H' ⟨S', v, rfl, R', hps, I', M', hT', hr'⟩
    rw [List.length_map, List.drop_length] at hps I'
    rw [pts_self S' n hps] at I'
    exact k S' H' (R'.fsub fun b o hb => by rw [upd_ne fun z => by rw [z, ha0] at hb; cases hb]; exact hb) I' M' hT' hr'
end
end Snk
namespace Snk
open PySem L2
/-- the defs of the hall and of its ender, as they stand behind the top -/
structure Fns (K : PySem.W.Frag) (C CH CE : Addr) where
  aThing : Addr
  aMake : Addr
  aHold : Addr
  aLoose : Addr
  aPut : Addr
  aTake : Addr
  aLetGo : Addr
  aWork : Addr
  aTurn : Addr
  aAsk : Addr
  aBeGone : Addr
  aEmpty : Addr
  aLast : Addr
  aIs : Addr
  aDo : Addr
  dThing : FuncData
  dMake : FuncData
  dHold : FuncData
  dLoose : FuncData
  dPut : FuncData
  dTake : FuncData
  dLetGo : FuncData
  dWork : FuncData
  dTurn : FuncData
  dAsk : FuncData
  dBeGone : FuncData
  dEmpty : FuncData
  dLast : FuncData
  dIs : FuncData
  dDo : FuncData
  FThing : Fun K "__init__" "Thing.__init__" sThing aThing dThing
  FMake : Fun K "make" "Hall.make" sMake aMake dMake
  FHold : Fun K "hold" "Hall.hold" sHold aHold dHold
  FLoose : Fun K "loose" "Hall.loose" sLoose aLoose dLoose
  FPut : Fun K "put" "Hall.put" sPut aPut dPut
  FTake : Fun K "take" "Hall.take" sTake aTake dTake
  FLetGo : Fun K "let_go" "Hall.let_go" sLetGo aLetGo dLetGo
  FWork : Fun K "work" "Hall.work" sWork aWork dWork
  FTurn : Fun K "turn" "Hall.turn" sTurn aTurn dTurn
  FAsk : Fun K "ask_last" "Hall.ask_last" sAskLast aAsk dAsk
  FBeGone : Fun K "be_gone" "Hall.be_gone" sBeGone aBeGone dBeGone
  FEmpty : Fun K "empty" "Hall.empty" sEmpty aEmpty dEmpty
  FLast : Fun K "last" "Ends.last" sLast aLast dLast
  FIs : Fun K "is_there" "Ends.is_there" sIsThere aIs dIs
  FDo : Fun K "do" "Ends.do" sDo aDo dDo
  bThing : Binds K dThing ["self", "form", "number", "own"] []
  bMake : Binds K dMake ["self", "form", "own"] []
  bHold : Binds K dHold ["self", "value"] []
  bLoose : Binds K dLoose ["self", "value"] []
  bPut : Binds K dPut ["self", "thing", "key", "value"] []
  bTake : Binds K dTake ["self", "thing", "key"] []
  bLetGo : Binds K dLetGo ["self", "thing"] []
  bWork : Binds K dWork ["self"] []
  bTurn : Binds K dTurn ["self", "thing"] []
  bAsk : Binds K dAsk ["self", "thing"] []
  bBeGone : Binds K dBeGone ["self", "thing"] []
  bEmpty : Binds K dEmpty ["self", "thing"] []
  bLast : Binds K dLast ["self", "thing"] []
  bIs : Binds K dIs ["self", "value"] []
  bDo : Binds K dDo ["self", "deed"] []
  MThing : Mk K C aThing
  mMake : Meth K CH "make" aMake
  mHold : Meth K CH "hold" aHold
  mLoose : Meth K CH "loose" aLoose
  mPut : Meth K CH "put" aPut
  mTake : Meth K CH "take" aTake
  mLetGo : Meth K CH "let_go" aLetGo
  mWork : Meth K CH "work" aWork
  mTurn : Meth K CH "turn" aTurn
  mAsk : Meth K CH "ask_last" aAsk
  mBeGone : Meth K CH "be_gone" aBeGone
  mEmpty : Meth K CH "empty" aEmpty
  mLast : Meth K CE "last" aLast
  mIs : Meth K CE "is_there" aIs
  mDo : Meth K CE "do" aDo
section
variable {P : Program} {w : World} {K : PySem.W.Frag} {mg : Str → Option Value} {base : Heap} {C CH CE : Addr}
theorem pt_no {X : Cx} {e : Expr} : PT X e (fun _ _ _ => False) := ⟨fun _ _ _ _ _ _ h => h.elim⟩
theorem pe_no {X : Cx} {e : Expr} : PE X e (fun _ _ _ => False) := ⟨fun _ _ _ _ _ _ h => h.elim⟩

/-! ### make -/
def spMake (C CH CE : Addr) : Sp := fun vs H Q _ => ∃ (W : Wd) (S : Hs) (F : Hp) (f : Str), IsW W C CH CE ∧ vs = [.ref W.h, .str f, .non] ∧ Rep W S F H ∧ (∀ n, n ∈ S.there → n ≤ S.many) ∧ (∀ n, n ∈ S.rl → n ≤ S.many) ∧ S.there.length < 1000 ∧
  ∀ p d q H', H p = none → Rep W (S.made p d q f) F H' → Q (.ref p) H'
theorem scMake : FnScope ["self", "form", "own", "thing"] ["self", "form", "own"] (defScope sMake) := ⟨rfl, rfl, rfl, by decide +kernel, rfl, by decide +kernel, by decide +kernel⟩
theorem ok_make (T : Txt K mg C CH CE) (N : Fns K C CH CE) : FnOk P w K mg base CX0 3 N.aMake N.dMake ["self", "form", "own"] (spMake C CH CE) := by
  have G : FnOk P w K mg base CX0 1 N.aThing N.dThing ["self", "form", "number", "own"] (spThing C) := ok_thing N.FThing T
  refine N.FMake.ok scMake (fun vs H Q E h => ?_) (fun cdv A outer s H vs Q E hr h => ?_)
  · obtain ⟨W, S, F, f, _, rfl, _⟩ := h
    rfl
  obtain ⟨W, S, F, f, ⟨rfl, rfl, rfl⟩, rfl, R, hth, hrl, hlen, k⟩ := h
  have hu := hu_of hr
  refine ⟨_, pss_cons (ps_fldaug (pv 0) pe_int in_add) (pss_cons (ps_set (i := 3) scMake.nd rfl (Or.inl rfl) (pe_make N.MThing G hr rfl T.mgT N.bThing .nil pass0 (pa_cons (pv 1) (pa_cons (pe_fld (pv 0) rfl) (pa_cons (pv 2) pa_nil)))))
    (pss_cons (ps_dput hu (pe_fld (pv 0) rfl) (pe_fld (pv 3) rfl) (pv 3) rfl) (pss_one (ps_ret (pv 3))))), ?_⟩
  refine ⟨_, rfl, _, W.CH, _, _, _, rfl, R.hall, T.clH, T.nMany, hf_many _ _, _, _, rfl, rfl, _, _, R.hall, hf_len _ _, ?_⟩
  have ei : (S.many : Int) + 1 = ((S.many + 1 : Nat) : Int) := by omega
  rw [ei, hf_put_many]
  refine ⟨_, rfl, _, rfl, _, W.CH, _, _, _, rfl, upd_same, T.clH, T.nMany, hf_many _ _, _, rfl, ?_⟩
  intro x dx nx ndx nex
  refine ⟨x, dx, f, S.many + 1, rfl, upd_same, fun q H' hq0 e1 e2 k1 => ⟨rfl, ?_⟩⟩
  have nxh : x ≠ W.h := fun z => by rw [z, upd_same] at nx; cases nx
  have ndh : dx ≠ W.h := fun z => by rw [z, upd_same] at ndx; cases ndx
  have hx : H x = none := by
    rw [upd_ne nxh] at nx
    exact nx
  have hd : H dx = none := by
    rw [upd_ne ndh] at ndx
    exact ndx
  have nqx : q ≠ x := fun z => by rw [z, upd_same] at hq0; cases hq0
  have nqd : q ≠ dx := fun z => by rw [z, upd_ne nex, upd_same] at hq0; cases hq0
  have nqh : q ≠ W.h := fun z => by rw [z, upd_ne nxh.symm, upd_ne ndh.symm, upd_same] at hq0; cases hq0
  have hq : H q = none := by
    rw [upd_ne nqx, upd_ne nqd, upd_ne nqh] at hq0
    exact hq0
  have keep : ∀ b o, H b = some o → b ≠ W.h → H' b = some o := fun b o e ne => by
    have nbx : b ≠ x := ne_of_none e hx
    refine k1 b o ?_ nbx
    rw [upd_ne nbx, upd_ne (ne_of_none e hd), upd_ne ne]
    exact e
  have hall' : H' W.h = some (.ins W.CH W.hdx (hf W { S with many := S.many + 1 })) := by
    refine k1 _ _ ?_ nxh.symm
    rw [upd_ne nxh.symm, upd_ne ndh.symm, upd_same]
  have nth : W.thA ≠ W.h := fun z => by
    have e0 : adr W S .hall = some W.thA := by rw [z]; rfl
    have q := R.inj .thd .hall W.thA rfl e0
    cases q
  have thd' : H' W.thA = some (.dK (thKvs S)) := keep _ _ R.thd nth
  have hnew : ¬ S.many + 1 ∈ S.there := fun z => by
    have := hth _ z
    omega
  refine ⟨_, rfl, _, rfl, _, W.CH, _, _, _, rfl, hall', T.clH, T.nThere, hf_there _ _, _, rfl, _, W.C, _, _, _, rfl, e2, T.cl, T.nNumber, tf_number _ _, _, _, rfl, DPut.k (k := Sum.inl ((S.many + 1 : Nat) : Int)) thd' ?_, _, rfl, ?_⟩
  · show (S.there.map _).length < sizeLine
    rw [List.length_map]
    exact small1000 (Nat.le_of_lt hlen)
  · rw [putK_new _ (thKvs_no hnew)]
    have nxt : x ≠ W.thA := (ne_of_none R.thd hx).symm
    have nqt : q ≠ W.thA := (ne_of_none R.thd hq).symm
    refine k x dx q _ hx (R.made hx hq nqx.symm ?_ ?_ ?_ ?_ (fun b o e n1 n2 => by rw [upd_ne n2]; exact keep b o e n1) hrl)
    · rw [upd_ne nth.symm, hall']
      rfl
    · rw [upd_same]
      have : thKvs (S.made x dx q f) = thKvs S ++ [((Sum.inl ((S.many + 1 : Nat) : Int) : Key), V.ref x)] := by
        show (S.there ++ [S.many + 1]).map _ = _
        rw [List.map_append]
        have e3 : S.there.map (fun n : Nat => ((Sum.inl (n : Int) : Key), (S.made x dx q f).rf n)) = thKvs S := List.map_congr_left fun n hn => by
          unfold Hs.rf
          rw [made_old S x dx q f (hth n hn)]
        rw [e3]
        have e4 : (S.made x dx q f).rf (S.many + 1) = .ref x := by
          unfold Hs.rf
          rw [made_new]
        show _ ++ [((Sum.inl ((S.many + 1 : Nat) : Int) : Key), (S.made x dx q f).rf (S.many + 1))] = _
        rw [e4]
      rw [this]
    · rw [upd_ne nxt]
      exact e2
    · rw [upd_ne nqt]
      exact e1

/-! ### is_there -/
def spIs (C CH CE : Addr) : Sp := fun vs H Q _ => ∃ (W : Wd) (S : Hs) (F : Hp) (v : V), IsW W C CH CE ∧ vs = [.ref W.e, v] ∧ Rep W S F H ∧
  ((Pln v ∧ Q (.bl true) H) ∨ ∃ n, v = S.rf n ∧ (1 ≤ n ∧ n ≤ S.many) ∧ Q (.bl (decide (n ∈ S.there))) H)
theorem scIs : FnScope ["self", "value"] ["self", "value"] (defScope sIsThere) := ⟨rfl, rfl, rfl, by decide +kernel, rfl, by decide +kernel, by decide +kernel⟩
theorem ok_is (T : Txt K mg C CH CE) (N : Fns K C CH CE) : FnOk P w K mg base CX0 1 N.aIs N.dIs ["self", "value"] (spIs C CH CE) := by
  refine N.FIs.ok scIs (fun vs H Q E h => ?_) (fun cdv A outer s H vs Q E hr h => ?_)
  · obtain ⟨W, S, F, v, _, rfl, _⟩ := h
    rfl
  obtain ⟨W, S, F, v, ⟨rfl, rfl, rfl⟩, rfl, R, h⟩ := h
  have hu := hu_of hr
  refine ⟨_, pss_one (ps_ret (pe_or (pe_not (pe_callB call_isi (by rfl) T.isi (by decide +kernel) (pa_cons (pv 1) (pa_cons (pe_glob (v := .ref W.C) rfl T.mgT rfl) pa_nil))))
    (pe_one (pe_cmp (pc_din hu (pe_fld (pv 1) rfl) (pe_fld (pe_fld (pv 0) rfl) rfl)) rfl)))), ?_⟩
  rcases h with ⟨pl, k⟩ | ⟨n, rfl, hn, k⟩
  · obtain ⟨t, ty, e⟩ := isT_no T (H := H) pl
    refine ⟨_, rfl, _, _, _, _, false, rfl, .own W.C, ty, e, _, rfl, _, rfl, ?_⟩
    exact iteT k
  · refine ⟨_, rfl, _, _, _, _, true, rfl, .own W.C, isT_yes T (R.th hn), kThing, _, rfl, _, rfl, ?_⟩
    refine iteF ?_
    refine ⟨_, rfl, _, W.C, _, _, _, rfl, R.th hn, T.cl, T.nNumber, tf_number _ _, _, rfl, _, W.CE, _, _, _, rfl, R.en, T.clE, T.nHall, ef_hall _, _, W.CH, _, _, _, rfl, R.hall, T.clH, T.nThere, hf_there _ _, _, _, rfl, DGet.k (k := Sum.inl (n : Int)) R.thd, ?_⟩
    by_cases hT : n ∈ S.there
    · rw [thKvs_has hT]
      rw [decide_eq_true hT] at k
      exact k
    · rw [thKvs_no hT]
      rw [decide_eq_false hT] at k
      exact k
end
end Snk
namespace Snk
open PySem L2
/-! ## H. the recursion: loose, let_go, work, turn, ask_last, last, do, put, take, where no row is there -/
section
variable {Kn : Nat} {S : Hs} {ext : List V} {act sus : List Nat} {x n : Nat}
theorem cn_mo (S : Hs) (n : Nat) (c : Int) : Mo Kn 0 S (S.cn n c) := by
  have u : unE Kn (S.cn n c) = unE Kn S := unE_same fun m => ended_set (by rfl) m
  exact ⟨Nat.le_refl _, fun m _ => ad_set (by rfl) m, rfl, Nat.le_of_eq u, by rw [u]; exact Nat.le_refl _, fun m _ e => by rw [show ((S.cn n c).th m).ended = (S.th m).ended from ended_set (by rfl) m]; exact e⟩
theorem wt_mo (S : Hs) (n : Nat) (b : Bool) : Mo Kn 0 S (S.wt n b) := by
  have u : unE Kn (S.wt n b) = unE Kn S := unE_same fun m => ended_set (by rfl) m
  exact ⟨Nat.le_refl _, fun m _ => ad_set (by rfl) m, rfl, Nat.le_of_eq u, by rw [u]; exact Nat.le_refl _, fun m _ e => by rw [show ((S.wt n b).th m).ended = (S.th m).ended from ended_set (by rfl) m]; exact e⟩
theorem row_mo (S : Hs) (r : Option (Addr × List Nat)) : Mo Kn 0 S { S with row := r } := ⟨Nat.le_refl _, fun _ _ => rfl, rfl, Nat.le_refl _, Nat.le_refl _, fun _ _ e => e⟩
theorem lasts_mo (S : Hs) (r : Int) : Mo Kn 0 S { S with lasts := r } := ⟨Nat.le_refl _, fun _ _ => rfl, rfl, Nat.le_refl _, Nat.le_refl _, fun _ _ e => e⟩
theorem nums_mo (S : Hs) (r : List Nat) : Mo Kn 0 S { S with nums := r } := ⟨Nat.le_refl _, fun _ _ => rfl, rfl, Nat.le_refl _, Nat.le_refl _, fun _ _ e => e⟩
theorem goes_mo (S : Hs) (n : Nat) : Mo Kn 0 S (S.goes n) := ⟨Nat.le_refl _, fun _ _ => rfl, rfl, Nat.le_refl _, Nat.le_refl _, fun _ _ e => e⟩
theorem en_mo (S : Hs) (n : Nat) : Mo Kn 0 S (S.en n) := by
  have u := unE_en_le Kn S n
  refine ⟨Nat.le_refl _, fun m _ => ad_set (by rfl) m, rfl, u, by show S.many + _ ≤ _; omega, fun m _ e => ?_⟩
  by_cases q : m = n
  · rw [q]
    show ((S.set n _).th n).ended = true
    rw [set_same]
  · show ((S.set n _).th m).ended = true
    rw [set_ne _ _ _ q]
    exact e
theorem unE_made (Kn : Nat) (S : Hs) (p d q : Addr) (f : Str) (h : Kn ≤ S.many) : unE Kn (S.made p d q f) = unE Kn S := by
  unfold unE
  congr 1
  refine List.filter_congr fun i hi => ?_
  have := List.mem_range.mp hi
  rw [made_old S p d q f (by omega)]
theorem made_mo (S : Hs) (p d q : Addr) (f : Str) (h : Kn ≤ S.many) : Mo Kn 1 S (S.made p d q f) := by
  have u := unE_made Kn S p d q f h
  exact ⟨Nat.le_succ _, fun m hm => by rw [made_old S p d q f hm], rfl, Nat.le_of_eq u, by rw [u]; show S.many + 1 + _ ≤ _; omega, fun m hm e => by rw [made_old S p d q f hm]; exact e⟩
theorem unE_en_eq (Kn : Nat) (S : Hs) (n : Nat) (h : Kn < n) : unE Kn (S.en n) = unE Kn S := by
  unfold unE
  congr 1
  refine List.filter_congr fun i hi => ?_
  have := List.mem_range.mp hi
  have q2 : ((S.en n).th (i + 1)).ended = (S.th (i + 1)).ended := by
    show ((S.set n _).th (i + 1)).ended = _
    rw [set_ne _ _ _ (by omega)]
  rw [q2]
theorem PlF.step {F F' : Hp} {S S' : Hs} {d : Nat} (PL : PlF Kn S F) (h : Kn ≤ S.many) (M : Mo Kn d S S') (k : Same F F') : PlF Kn S' F' :=
  PL.mo (fun n hn => M.ad n (Nat.le_trans hn h)) M.plans k
theorem same_upd {F : Hp} {a : Addr} (h : F a = none) (o : HO) : Same F (upd F a o) := same_new h o
theorem kV_pln (k : Key) : Pln (kV k) := by
  cases k <;> exact trivial
end
def dB (S : Hs) : Deed → List Bool
  | .put a _ b => [true, decide (a ∈ S.there), true, decide (b ∈ S.there)]
  | .take a _ => [true, decide (a ∈ S.there), true]
  | .make a _ => [true, decide (a ∈ S.there), true]
def dThere (S : Hs) : Deed → Prop
  | .put a _ b => a ∈ S.there ∧ b ∈ S.there
  | .take a _ => a ∈ S.there
  | .make a _ => a ∈ S.there
theorem dB_all {S : Hs} {d : Deed} (h : (dB S d).all id = true) : dThere S d := by
  cases d <;> (simp [dB] at h; exact h)
theorem dB_at {Kn : Nat} {S : Hs} {d : Deed} (hd : dOk Kn d) (hK : Kn ≤ S.many) : ∀ {i : Nat} {x : V}, (dV S d)[i]? = some x →
    ∃ b, (dB S d)[i]? = some b ∧ ((Pln x ∧ b = true) ∨ ∃ n, x = S.rf n ∧ (1 ≤ n ∧ n ≤ S.many) ∧ b = decide (n ∈ S.there)) := by
  intro i x h
  cases d with
  | put a k b =>
    obtain ⟨h1, _, h2⟩ := hd
    match i, h with
    | 0, h => exact ⟨true, rfl, .inl ⟨by rw [← Option.some.inj h]; trivial, rfl⟩⟩
    | 1, h => exact ⟨_, rfl, .inr ⟨a, (Option.some.inj h).symm, ⟨h1.1, Nat.le_trans h1.2 hK⟩, rfl⟩⟩
    | 2, h => exact ⟨true, rfl, .inl ⟨by rw [← Option.some.inj h]; exact kV_pln k, rfl⟩⟩
    | 3, h => exact ⟨_, rfl, .inr ⟨b, (Option.some.inj h).symm, ⟨h2.1, Nat.le_trans h2.2 hK⟩, rfl⟩⟩
    | i + 4, h => cases h
  | take a k =>
    obtain ⟨h1, _⟩ := hd
    match i, h with
    | 0, h => exact ⟨true, rfl, .inl ⟨by rw [← Option.some.inj h]; trivial, rfl⟩⟩
    | 1, h => exact ⟨_, rfl, .inr ⟨a, (Option.some.inj h).symm, ⟨h1.1, Nat.le_trans h1.2 hK⟩, rfl⟩⟩
    | 2, h => exact ⟨true, rfl, .inl ⟨by rw [← Option.some.inj h]; exact kV_pln k, rfl⟩⟩
    | i + 3, h => cases h
  | make a k =>
    obtain ⟨h1, _⟩ := hd
    match i, h with
    | 0, h => exact ⟨true, rfl, .inl ⟨by rw [← Option.some.inj h]; trivial, rfl⟩⟩
    | 1, h => exact ⟨_, rfl, .inr ⟨a, (Option.some.inj h).symm, ⟨h1.1, Nat.le_trans h1.2 hK⟩, rfl⟩⟩
    | 2, h => exact ⟨true, rfl, .inl ⟨by rw [← Option.some.inj h]; exact kV_pln k, rfl⟩⟩
    | i + 3, h => cases h
theorem dB_len (S : Hs) (d : Deed) : (dB S d).length = (dV S d).length := by cases d <;> rfl

section
variable {P : Program} {w : World} {K : PySem.W.Frag} {mg : Str → Option Value} {base : Heap} {C CH CE : Addr}
theorem fn_false {k : Nat} {f : Addr} {fd : FuncData} {ps : List Str} {sp : Sp} (h : ∀ vs H Q E, ¬ sp vs H Q E) : FnOk P w K mg base CX0 k f fd ps sp :=
  ⟨fun vs H Q E z => absurd z (h vs H Q E), fun A outer s H args us vs Q E _ _ _ _ z => absurd z (h vs H Q E)⟩
/-! ### the promises -/
def Post (W : Wd) (S : Hs) (F : Hp) (Kn d : Nat) (ext : List V) (act sus : List Nat) (Q : VK) : Prop :=
  ∀ S' H', Rep W S' F H' → Inv Kn S' ext act sus 0 → S'.row = none → Mo Kn d S S' → Q .non H'
/-- what stands at such a call -/
structure Pre (C CH CE : Addr) (W : Wd) (S : Hs) (F H : Hp) (Kn V : Nat) : Prop where
  w : IsW W C CH CE
  rep : Rep W S F H
  pl : PlF Kn S F
  u : unE Kn S < V
  k12 : Kn ≤ 12
def spLooseB (C CH CE : Addr) (V0 : Nat) : Sp := fun vs H Q _ => ∃ (W : Wd) (S : Hs) (F : Hp) (Kn : Nat) (ext : List V) (act sus : List Nat) (v : V), Pre C CH CE W S F H Kn V0 ∧ vs = [.ref W.h, v] ∧ S.row = none ∧
  Inv Kn S (v :: ext) act sus 0 ∧ Post W S F Kn 0 ext act sus Q
def spLetGoB (C CH CE : Addr) (V0 : Nat) : Sp := fun vs H Q _ => ∃ (W : Wd) (S : Hs) (F : Hp) (Kn : Nat) (ext : List V) (act sus : List Nat) (n : Nat), Pre C CH CE W S F H Kn V0 ∧ vs = [.ref W.h, S.rf n] ∧ S.row = none ∧
  Inv Kn S ext act sus n ∧ n ∈ S.there ∧ (S.th n).count = 0 ∧ Post W S F Kn 0 ext act sus Q
def spWork (C CH CE : Addr) (V0 : Nat) : Sp := fun vs H Q _ => ∃ (W : Wd) (S : Hs) (F : Hp) (Kn : Nat) (ext : List V) (act sus : List Nat) (r : Addr) (l : List Nat), Pre C CH CE W S F H Kn V0 ∧ vs = [.ref W.h] ∧ S.row = some (r, l) ∧
  Inv Kn S ext act sus 0 ∧ Post W S F Kn 0 ext act sus Q
def Lss (Kn : Nat) (S S' : Hs) (l : List Nat) : Prop :=
  unE Kn S' < unE Kn S ∨ (unE Kn S' = unE Kn S ∧ (S'.there.length < S.there.length ∨ (S'.there.length = S.there.length ∧ S'.rl.length ≤ l.length)))
def spTurn (C CH CE : Addr) (V0 : Nat) : Sp := fun vs H Q _ => ∃ (W : Wd) (S : Hs) (F : Hp) (Kn : Nat) (ext : List V) (act sus : List Nat) (r : Addr) (l : List Nat) (n : Nat), Pre C CH CE W S F H Kn V0 ∧ vs = [.ref W.h, S.rf n] ∧ S.row = some (r, l) ∧
  Inv Kn { S with row := some (r, n :: l) } ext act sus 0 ∧ ∀ S' H', Rep W S' F H' → Inv Kn S' ext act sus 0 → (∃ l', S'.row = some (r, l')) → Mo Kn 0 S S' → Lss Kn S S' l → Q .non H'
def spAsk (C CH CE : Addr) (V0 : Nat) : Sp := fun vs H Q _ => ∃ (W : Wd) (S : Hs) (F : Hp) (Kn : Nat) (ext : List V) (act sus : List Nat) (r : Addr) (l : List Nat) (n : Nat), Pre C CH CE W S F H Kn V0 ∧ vs = [.ref W.h, S.rf n] ∧ S.row = some (r, l) ∧
  Inv Kn S ext act sus 0 ∧ n ∈ act ∧ ∀ S' H', Rep W S' F H' → Inv Kn S' ext act sus 0 → S'.row = some (r, l) → Mo Kn 0 S S' → (S'.th n).ended = true →
    (unE Kn S' < unE Kn S ∨ (unE Kn S' = unE Kn S ∧ S'.there = S.there ∧ (S'.th n).count = (S.th n).count)) → Q .non H'
def spLast (C CH CE : Addr) (V0 : Nat) : Sp := fun vs H Q _ => ∃ (W : Wd) (S : Hs) (F : Hp) (Kn : Nat) (ext : List V) (act sus : List Nat) (n : Nat), IsW W C CH CE ∧ Rep W S F H ∧ PlF Kn S F ∧ Kn ≤ 12 ∧ vs = [.ref W.e, S.rf n] ∧ S.row = none ∧
  Inv Kn { S with nums := S.nums ++ [n] } ext act sus 0 ∧ n ∈ S.there ∧ (n ≤ Kn → unE Kn S < V0 ∧ S.many + 3 * unE Kn S + 3 ≤ 4 * Kn) ∧
  ∀ S' H', Rep W S' F H' → Inv Kn S' ext act sus 0 → S'.row = none → Mo Kn (if n ≤ Kn then 3 else 0) S S' → (Kn < n → S'.there = S.there ∧ (S'.th n).count = (S.th n).count ∧ unE Kn S' = unE Kn S) → Q .non H'
def spDo (C CH CE : Addr) (V0 : Nat) : Sp := fun vs H Q _ => ∃ (W : Wd) (S : Hs) (F : Hp) (Kn : Nat) (ext : List V) (act sus : List Nat) (t : Addr) (d : Deed), Pre C CH CE W S F H Kn V0 ∧ vs = [.ref W.e, .ref t] ∧ S.row = none ∧
  Inv Kn S ext act sus 0 ∧ F t = some (.tup (dV S d)) ∧ dOk Kn d ∧ dThere S d ∧ S.many + 3 * unE Kn S + 1 ≤ 4 * Kn ∧ Post W S F Kn 1 ext act sus Q
def spPutB (C CH CE : Addr) (V0 : Nat) : Sp := fun vs H Q _ => ∃ (W : Wd) (S : Hs) (F : Hp) (Kn : Nat) (ext : List V) (act sus : List Nat) (n : Nat) (k : Key) (v : V) (x : Nat), Pre C CH CE W S F H Kn V0 ∧ vs = [.ref W.h, S.rf n, kV k, v] ∧ S.row = none ∧
  Inv Kn S ext act sus x ∧ n ∈ S.there ∧ n ≤ Kn ∧ k ∈ sixK ∧ ((Pln v ∧ x = 0) ∨ ∃ m, v = S.rf m ∧ m ∈ S.there ∧ (x = 0 ∨ x = m)) ∧ Post W S F Kn 0 ext act sus Q
def spTakeB (C CH CE : Addr) (V0 : Nat) : Sp := fun vs H Q _ => ∃ (W : Wd) (S : Hs) (F : Hp) (Kn : Nat) (ext : List V) (act sus : List Nat) (n : Nat) (k : Key) (v : V), Pre C CH CE W S F H Kn V0 ∧ vs = [.ref W.h, S.rf n, kV k] ∧ S.row = none ∧
  Inv Kn S ext act sus 0 ∧ n ∈ S.there ∧ valV (S.th n).parts k = some v ∧ Post W S F Kn 0 ext act sus Q
/-- hold, with one end -/
def spHoldC (C : Addr) : Sp := fun vs H Q _ => ∃ (W : Wd) (S : Hs) (F : Hp) (v : V), W.C = C ∧ vs = [.ref W.h, v] ∧ Rep W S F H ∧ (Pln v ∨ ∃ n, v = S.rf n ∧ (1 ≤ n ∧ n ≤ S.many)) ∧
  ∀ S1 H', Rep W S1 F H' → ((Pln v ∧ S1 = S) ∨ ∃ n, v = S.rf n ∧ (1 ≤ n ∧ n ≤ S.many) ∧ S1 = S.cn n ((S.th n).count + 1)) → Q .non H'
theorem ok_holdC (T : Txt K mg C CH CE) (N : Fns K C CH CE) : FnOk P w K mg base CX0 1 N.aHold N.dHold ["self", "value"] (spHoldC C) := by
  refine (ok_hold N.FHold T).imp fun vs H Q E h => ?_
  obtain ⟨W, S, F, v, e1, e2, R, o, k⟩ := h
  refine ⟨W, S, F, v, e1, e2, R, ?_⟩
  rcases o with o | ⟨n, o1, o2⟩
  · exact .inl ⟨o, fun H' R' => k S H' R' (.inl ⟨o, rfl⟩)⟩
  · exact .inr ⟨n, o1, o2, fun H' R' => k _ H' R' (.inr ⟨n, o1, o2, rfl⟩)⟩

/-! ### loose -/
theorem ok_looseB {V0 k : Nat} (T : Txt K mg C CH CE) (N : Fns K C CH CE) (G : FnOk P w K mg base CX0 k N.aLetGo N.dLetGo ["self", "thing"] (spLetGoB C CH CE V0)) :
    FnOk P w K mg base CX0 (k + 1) N.aLoose N.dLoose ["self", "value"] (spLooseB C CH CE V0) := by
  refine N.FLoose.ok scLoose (fun vs H Q E h => ?_) (fun cdv A outer s H vs Q E hr h => ?_)
  · obtain ⟨W, S, F, Kn, ext, act, sus, v, _, rfl, _⟩ := h
    rfl
  obtain ⟨W, S, F, Kn, ext, act, sus, v, ⟨⟨rfl, rfl, rfl⟩, R, PL, hu, hK⟩, rfl, hrow, I, k⟩ := h
  refine ⟨_, pss_one (ps_if (pt_val (pe_callB call_isi (by rfl) T.isi (by decide +kernel) (pa_cons (pv 1) (pa_cons (pe_glob (v := .ref W.C) rfl T.mgT rfl) pa_nil))))
    (pss_cons (ps_fldaug (pv 1) pe_int in_sub) (pss_one (ps_if (pt_cmpR op_eq (pe_fld (pv 1) rfl) pe_int (nomark _)) (pss_one (ps_expr (pe_meth (pv 0) T.clH N.mLetGo G hr N.bLetGo .nil pass0 (pa_cons (pv 1) pa_nil)))) pss_nil))) pss_nil), ?_⟩
  rcases I.ev v List.mem_cons_self with pl | ⟨n, hT, rfl⟩
  · obtain ⟨t, ty, e⟩ := isT_no T (H := H) pl
    refine ⟨_, rfl, _, _, _, _, false, rfl, .own W.C, ty, e, _, rfl, ?_⟩
    refine iteF ?_
    exact k S _ R (inv_unplain I pl) hrow (Mo.refl S)
  · have hn := I.rng hT
    refine ⟨_, rfl, _, _, _, _, true, rfl, .own W.C, isT_yes T (R.th hn), kThing, _, rfl, ?_⟩
    refine iteT ?_
    refine ⟨_, rfl, _, W.C, _, _, _, rfl, R.th hn, T.cl, T.nCount, tf_count _ _, _, _, rfl, rfl, _, _, R.th hn, tf_len _ _, ?_⟩
    have R1 := R.cn hn ((S.th n).count - 1)
    have M1 : Mo Kn 0 S (S.cn n ((S.th n).count - 1)) := cn_mo _ _ _
    have I1 := inv_dec I hT
    have ead : ((S.cn n ((S.th n).count - 1)).th n).ad = (S.th n).ad := ad_set (by rfl) n
    have q1 := R1.th (n := n) hn
    rw [ead] at q1
    refine ⟨_, rfl, _, W.C, _, _, _, rfl, q1, T.cl, T.nCount, tf_count _ _, rfl, _, rfl, ?_⟩
    rw [cn_count]
    by_cases c : (S.th n).count - 1 = 0
    · rw [if_pos c] at I1
      have e : decide (V.int ((S.th n).count - 1) = V.int 0) = true := decide_eq_true (by rw [c])
      rw [e]
      refine iteT ?_
      refine ⟨_, rfl, _, _, _, rfl, R1.hall, hf_no_let_go _ _, _, rfl, W, _, F, Kn, ext, act, sus, n, ⟨⟨rfl, rfl, rfl⟩, R1, PL.step I.km M1 (Same.refl F), Nat.lt_of_le_of_lt M1.u hu, hK⟩, ?_, hrow, I1, hT, ?_, fun S' H' R' I' hr' M' => k S' H' R' I' hr' (M1.trans M')⟩
      · show [V.ref W.h, S.rf n] = [V.ref W.h, (S.cn n _).rf n]
        rw [show (S.cn n ((S.th n).count - 1)).rf n = S.rf n from rf_set (by rfl) n]
      · rw [cn_count]
        exact c
    · rw [if_neg c] at I1
      have e : decide (V.int ((S.th n).count - 1) = V.int 0) = false := decide_eq_false fun z => c (V.int.inj z)
      rw [e]
      refine iteF ?_
      exact k _ _ R1 I1 hrow M1
/-! ### let_go -/
theorem ok_letgoB {V0 k : Nat} (T : Txt K mg C CH CE) (N : Fns K C CH CE) (G : FnOk P w K mg base CX0 k N.aWork N.dWork ["self"] (spWork C CH CE V0)) :
    FnOk P w K mg base CX0 (k + 1) N.aLetGo N.dLetGo ["self", "thing"] (spLetGoB C CH CE V0) := by
  refine N.FLetGo.ok scLetGo (fun vs H Q E h => ?_) (fun cdv A outer s H vs Q E hr h => ?_)
  · obtain ⟨W, S, F, Kn, ext, act, sus, n, _, rfl, _⟩ := h
    rfl
  obtain ⟨W, S, F, Kn, ext, act, sus, n, ⟨⟨rfl, rfl, rfl⟩, R, PL, hu0, hK⟩, rfl, hrow, I, hT, hc, k⟩ := h
  have hu := hu_of hr
  have hn := I.rng hT
  refine ⟨_, pss_cons (ps_if (PW.pt (pw_or (pt_val (pe_fld (pv 1) rfl)) (pw_or1 (pt_cmp (pc_dnotin hu (pe_fld (pv 1) rfl) (pe_fld (pv 0) rfl)))))) (pss_one ps_retN) pss_nil)
    (pss_cons (ps_fld (pv 1) pe_bl rfl)
    (pss_one (ps_if (pt_cmp (pc_isN (pe_fld (pv 0) rfl))) (pss_cons (ps_fld (pv 0) (pe_lst (pa_cons (pv 1) pa_nil)) rfl) (pss_one (ps_expr (pe_meth0 (pv 0) T.clH N.mWork G hr N.bWork .nil pass0)))) pss_never))), ?_⟩
  refine ⟨_, rfl, _, W.C, _, _, _, rfl, R.th hn, T.cl, T.nWaits, tf_waits _ _, _, rfl, ?_⟩
  cases hw : (S.th n).waits with
  | true =>
    refine iteT (iteT ?_)
    exact k S H R (inv_exc I (.inr (.inl ((I.wv n hT).mp hw)))) hrow (Mo.refl S)
  | false =>
    refine iteF ?_
    have h0 := thKvs_has hT
    refine ⟨_, rfl, _, W.C, _, _, _, rfl, R.th hn, T.cl, T.nNumber, tf_number _ _, _, rfl, _, W.CH, _, _, _, rfl, R.hall, T.clH, T.nThere, hf_there _ _, _, _, rfl, DGet.k (k := Sum.inl (n : Int)) R.thd, _, rfl, ?_⟩
    rw [h0]
    refine iteF ?_
    refine ⟨_, rfl, _, W.C, _, _, rfl, R.th hn, T.cl, T.nWaits, tf_len _ _, ?_⟩
    have R1 := R.wt hn true
    refine ⟨_, rfl, _, W.CH, _, _, _, rfl, R1.hall, T.clH, T.nRow, hf_row _ _, _, rfl, ?_⟩
    have e : rowV (S.wt n true) = .non := by
      show rowO S.row = _
      rw [hrow]
      rfl
    rw [e]
    refine iteT ?_
    refine ⟨_, rfl, (by show 1 ≤ sizeLine; decide), fun p hp => ?_⟩
    have R2 := R1.new hp (.lst [S.rf n])
    refine ⟨_, rfl, _, W.CH, _, _, rfl, R2.hall, T.clH, T.nRow, hf_len _ _, ?_⟩
    have erf : (S.wt n true).rf n = S.rf n := rf_set (by rfl) n
    have R3 := R2.rowOn (F := F) (r := p) (l := [n]) (by rw [upd_same]; show _ = some (HO.lst [(S.wt n true).rf n]); rw [erf]) (R1.free hp) fun b o hb => ⟨hb, fun z => by
      have := R1.ffree hp
      rw [z, this] at hb
      cases hb⟩
    have eS : ({ S.wt n true with row := some (p, [n]) } : Hs) = S.lay n p := by
      unfold Hs.lay Hs.rl
      rw [hrow]
      rfl
    rw [eS] at R3
    have M3 : Mo Kn 0 S (S.lay n p) := (wt_mo S n true).trans (row_mo _ _)
    refine ⟨_, rfl, _, _, _, rfl, R3.hall, hf_no_work _ _, W, S.lay n p, F, Kn, ext, act, sus, p, [n], ⟨⟨rfl, rfl, rfl⟩, R3, PL.step I.km M3 (Same.refl F), Nat.lt_of_le_of_lt M3.u hu0, hK⟩, rfl, ?_, inv_lay I hT hc hw p, fun S' H' R' I' hr' M' => k S' H' R' I' hr' (M3.trans M')⟩
    rw [← eS]
/-! ### put -/
theorem scPut : FnScope ["self", "thing", "key", "value", "old"] ["self", "thing", "key", "value"] (defScope sPut) := ⟨rfl, rfl, rfl, by decide +kernel, rfl, by decide +kernel, by decide +kernel⟩
theorem ok_putB {V0 k : Nat} (T : Txt K mg C CH CE) (N : Fns K C CH CE) (G : FnOk P w K mg base CX0 (k + 1) N.aLoose N.dLoose ["self", "value"] (spLooseB C CH CE V0)) :
    FnOk P w K mg base CX0 (k + 2) N.aPut N.dPut ["self", "thing", "key", "value"] (spPutB C CH CE V0) := by
  have GH : FnOk P w K mg base CX0 1 N.aHold N.dHold ["self", "value"] (spHoldC C) := ok_holdC T N
  refine N.FPut.ok scPut (fun vs H Q E h => ?_) (fun cdv A outer s H vs Q E hr h => ?_)
  · obtain ⟨W, S, F, Kn, ext, act, sus, n, k, v, x, _, rfl, _⟩ := h
    rfl
  obtain ⟨W, S, F, Kn, ext, act, sus, n, key, v, x, ⟨⟨rfl, rfl, rfl⟩, R, PL, hu0, hK⟩, rfl, hrow, I, hT, hnK, hkey, hv, k⟩ := h
  have hu := hu_of hr
  have hn := I.rng hT
  refine ⟨_, pss_cons (ps_set (i := 4) scPut.nd rfl (Or.inl rfl) (pe_dget1 hu (pe_fld (pv 1) rfl) (pv 2) ⟨rfl, rfl, rfl, rfl⟩))
    (pss_cons (ps_expr (pe_meth (pv 0) T.clH N.mHold GH (hr.mono (by omega)) N.bHold .nil pass0 (pa_cons (pv 3) pa_nil)))
    (pss_cons (ps_dput hu (pe_fld (pv 1) rfl) (pv 2) (pv 3) rfl)
    (pss_one (ps_expr (pe_meth (pv 0) T.clH N.mLoose G hr N.bLoose .nil pass0 (pa_cons (pv 4) pa_nil)))))), ?_⟩
  refine ⟨_, rfl, _, W.C, _, _, _, rfl, R.th hn, T.cl, T.nParts, tf_parts _ _, _, rfl, .inl ⟨_, .inl (R.pd hn)⟩, _, rfl, _, DGet.k (k := key) (R.pd hn), ?_⟩
  refine ⟨_, rfl, _, _, _, rfl, R.hall, hf_no_hold _ _, _, rfl, W, S, F, v, rfl, rfl, R, ?_, fun S1 H1 R1 hS1 => ?_⟩
  · rcases hv with ⟨hv, _⟩ | ⟨m, hv, hm, _⟩
    · exact .inl hv
    · exact .inr ⟨m, hv, I.rng hm⟩
  have facts : Inv Kn S1 (v :: ext) act sus 0 ∧ Mo Kn 0 S S1 ∧ (S1.th n).parts = (S.th n).parts ∧ S1.there = S.there ∧ S1.row = none := by
    rcases hS1 with ⟨pl, rfl⟩ | ⟨m, em, hm, rfl⟩
    · rcases hv with ⟨_, rfl⟩ | ⟨m, em, hm, hx⟩
      · exact ⟨inv_plain I pl, Mo.refl _, rfl, rfl, hrow⟩
      · rw [em] at pl
        exact pl.elim
    · rcases hv with ⟨pl, _⟩ | ⟨m', em', hm', hx⟩
      · rw [em] at pl
        exact pl.elim
      · have e3 : m = m' := by
          obtain ⟨a, b⟩ := I.rng hm'
          exact I.ij m m' hm.1 hm.2 a b (V.ref.inj (em.symm.trans em'))
        subst e3
        refine ⟨?_, cn_mo _ _ _, parts_set (by rfl) n, rfl, hrow⟩
        rw [em]
        refine inv_hold I hm' 0 ?_
        rcases hx with z | z
        · exact .inl z
        · exact .inr z
  obtain ⟨I1, M1, ep, eT, hrow1⟩ := facts
  have hn1 : 1 ≤ n ∧ n ≤ S1.many := ⟨hn.1, Nat.le_trans hn.2 M1.many⟩
  have hT1 : n ∈ S1.there := by rw [eT]; exact hT
  have hth := R1.th hn1
  rw [M1.ad n hn.2] at hth
  have hpd := R1.pd hn1
  refine ⟨_, rfl, _, rfl, _, W.C, _, _, _, rfl, hth, T.cl, T.nParts, tf_parts _ _, _, rfl, _, _, rfl, DPut.k (k := key) hpd (small1000 (Nat.le_trans (I1.plen hT1) (by decide))), ?_⟩
  have R2 := R1.pts hn1 (putK (S1.th n).parts key v)
  have I2 := inv_put I1 hT1 hnK hkey
  have M2 : Mo Kn 0 S (S1.pts n (putK (S1.th n).parts key v)) := M1.trans (pts_mo _ _ _)
  rw [ep] at I2
  refine ⟨_, rfl, _, _, _, rfl, R2.hall, hf_no_loose _ _, _, rfl, W, _, F, Kn, ext, act, sus, _, ⟨⟨rfl, rfl, rfl⟩, R2, PL.step I.km M2 (Same.refl F), Nat.lt_of_le_of_lt M2.u hu0, hK⟩, rfl, hrow1, ?_, fun S' H' R' I' hr' M' => k S' H' R' I' hr' (M2.trans M')⟩
  rw [ep]
  exact I2
/-! ### take -/
theorem scTake : FnScope ["self", "thing", "key"] ["self", "thing", "key"] (defScope sTake) := ⟨rfl, rfl, rfl, by decide +kernel, rfl, by decide +kernel, by decide +kernel⟩
theorem ok_takeB {V0 k : Nat} (T : Txt K mg C CH CE) (N : Fns K C CH CE) (G : FnOk P w K mg base CX0 k N.aLoose N.dLoose ["self", "value"] (spLooseB C CH CE V0)) :
    FnOk P w K mg base CX0 (k + 1) N.aTake N.dTake ["self", "thing", "key"] (spTakeB C CH CE V0) := by
  refine N.FTake.ok scTake (fun vs H Q E h => ?_) (fun cdv A outer s H vs Q E hr h => ?_)
  · obtain ⟨W, S, F, Kn, ext, act, sus, n, k, v, _, rfl, _⟩ := h
    rfl
  obtain ⟨W, S, F, Kn, ext, act, sus, n, key, v, ⟨⟨rfl, rfl, rfl⟩, R, PL, hu0, hK⟩, rfl, hrow, I, hT, hv, k⟩ := h
  have hn := I.rng hT
  refine ⟨_, pss_one (ps_expr (pe_meth (pv 0) T.clH N.mLoose G hr N.bLoose .nil pass0 (pa_cons (pe_dpop1 (pe_fld (pv 1) rfl) (pv 2) ⟨rfl, rfl, rfl, rfl⟩) pa_nil))), ?_⟩
  have R2 := R.pts hn (dropK (S.th n).parts key)
  have M2 : Mo Kn 0 S (S.pts n (dropK (S.th n).parts key)) := pts_mo _ _ _
  refine ⟨_, rfl, _, _, _, rfl, R.hall, hf_no_loose _ _, _, rfl, _, W.C, _, _, _, rfl, R.th hn, T.cl, T.nParts, tf_parts _ _, _, rfl, .inl ⟨_, .inl (R.pd hn)⟩, _, rfl, _, key, v, R.pd hn, rfl, hv,
    W, _, F, Kn, ext, act, sus, v, ⟨⟨rfl, rfl, rfl⟩, R2, PL.step I.km M2 (Same.refl F), Nat.lt_of_le_of_lt M2.u hu0, hK⟩, rfl, hrow, inv_take I hT hv, fun S' H' R' I' hr' M' => k S' H' R' I' hr' (M2.trans M')⟩
end
end Snk
namespace Snk
open PySem L2
section
variable {P : Program} {w : World} {K : PySem.W.Frag} {mg : Str → Option Value} {base : Heap} {C CH CE : Addr}
theorem row_eta {S : Hs} {r : Option (Addr × List Nat)} (h : S.row = r) : ({ S with row := r } : Hs) = S := by
  subst h
  rfl
/-! ### work -/
theorem scWork : FnScope ["self"] ["self"] (defScope sWork) := ⟨rfl, rfl, rfl, by decide +kernel, rfl, by decide +kernel, by decide +kernel⟩
theorem ok_work {V0 k : Nat} (T : Txt K mg C CH CE) (N : Fns K C CH CE) (G : FnOk P w K mg base CX0 k N.aTurn N.dTurn ["self", "thing"] (spTurn C CH CE V0)) :
    FnOk P w K mg base CX0 (k + 1) N.aWork N.dWork ["self"] (spWork C CH CE V0) := by
  refine N.FWork.ok scWork (fun vs H Q E h => ?_) (fun cdv A outer s H vs Q E hr h => ?_)
  · obtain ⟨W, S, F, Kn, ext, act, sus, r, l, _, rfl, _⟩ := h
    rfl
  obtain ⟨W, S, F, Kn, ext, act, sus, r, l, ⟨⟨rfl, rfl, rfl⟩, R, PL, hu0, hK⟩, rfl, hrow, I, k⟩ := h
  refine ⟨_, pss_cons (ps_while PassesOwn.never (pt_cmpR op_gt (pe_callB call_len_seq (by rfl) T.len PySem.boot_len (pa_cons (pe_fld (pv 0) rfl) pa_nil)) pe_int (nomark _))
      (pss_one (ps_expr (pe_meth (pv 0) T.clH N.mTurn G hr N.bTurn .nil pass0 (pa_cons (pe_bm PySem.F.plainAttrs_list PySem.F.slot_list_pop PySem.F.type_list_pop mt_popAt (pe_fld (pv 0) rfl) (pa_cons pe_int pa_nil)) pa_nil)))))
    (pss_one (ps_fld (pv 0) pe_non rfl)), ?_⟩
  refine ⟨fun m σ H' => ∃ (S' : Hs) (l' : List Nat), σ = [some (.ref W.h)] ∧ Rep W S' F H' ∧ Inv Kn S' ext act sus 0 ∧ S'.row = some (r, l') ∧ Mo Kn 0 S S' ∧ m = 4096 * unE Kn S' + 64 * S'.there.length + l'.length,
    ⟨_, S, l, rfl, R, I, hrow, Mo.refl S, rfl⟩, ?_⟩
  rintro m σ H1 ⟨S1, l1, rfl, R1, I1, hrow1, M1, rfl⟩
  have hL := R1.row hrow1
  have erow : rowV S1 = .ref r := by
    show rowO S1.row = _
    rw [hrow1]
    rfl
  refine ⟨_, rfl, _, W.CH, _, _, _, rfl, R1.hall, T.clH, T.nRow, hf_row _ _, r, _, by rw [erow], .inl (SqL.of hL), _, _, rfl, rfl, _, rfl, ?_⟩
  rw [List.length_map]
  cases l1 with
  | nil =>
    have e : decide ((0 : Int) < (([] : List Nat).length : Nat)) = false := by decide
    rw [e]
    refine iteF ?_
    refine ⟨_, rfl, _, W.CH, _, _, rfl, R1.hall, T.clH, T.nRow, hf_len _ _, ?_⟩
    have R2 := R1.rowOff hrow1
    have hF : F r = none := by
      cases q : F r with
      | none => rfl
      | some o =>
        exfalso
        refine R1.dj r o .row q ?_
        show S1.row.map (·.1) = some r
        rw [hrow1]
        rfl
    have I2 := inv_aside I1 hrow1
    rw [List.append_nil] at I2
    exact k _ _ (R2.fsub (same_upd hF _)) I2 rfl (M1.trans (row_mo _ _))
  | cons n l1 =>
    have e : decide ((0 : Int) < ((n :: l1).length : Nat)) = true := decide_eq_true (by rw [List.length_cons]; omega)
    rw [e]
    refine iteT ?_
    refine ⟨_, fun σ' H' h => h, ?_⟩
    refine ⟨_, rfl, _, _, _, rfl, R1.hall, hf_no_turn _ _, _, rfl, _, W.CH, _, _, _, rfl, R1.hall, T.clH, T.nRow, hf_row _ _, ?_⟩
    rw [erow]
    refine ⟨.inl ⟨rfl, _, SqL.of hL⟩, r, _, 0, 0, S1.rf n, rfl, rfl, hL, by decide, by decide, ?_, rfl, ?_⟩
    · rw [List.length_map, List.length_cons]
      simp [seqIndex?]
    have R2 := R1.rowl hrow1 (l' := l1)
    have M2 : Mo Kn 0 S { S1 with row := some (r, l1) } := M1.trans (row_mo _ _)
    have I2 : Inv Kn { ({ S1 with row := some (r, l1) } : Hs) with row := some (r, n :: l1) } ext act sus 0 := by
      have q : ({ ({ S1 with row := some (r, l1) } : Hs) with row := some (r, n :: l1) } : Hs) = S1 := row_eta hrow1
      rw [q]
      exact I1
    refine ⟨W, { S1 with row := some (r, l1) }, F, Kn, ext, act, sus, r, l1, n, ⟨⟨rfl, rfl, rfl⟩, R2, PL.step I.km M2 (Same.refl F), Nat.lt_of_le_of_lt M2.u hu0, hK⟩, rfl, rfl, I2, fun S3 H3 R3 I3 hr3 M3 L3 => ?_⟩
    obtain ⟨l3, hr3⟩ := hr3
    have z1 : S3.there.length ≤ 48 := by
      have := I3.tlen
      have := I3.many_le
      omega
    have e3 : S3.rl = l3 := by
      unfold Hs.rl
      rw [hr3]
    have z2 : l3.length ≤ 48 := by
      have q1 := I3.rlen
      have q2 := I3.many_le
      rw [e3] at q1
      omega
    refine ⟨_, ?_, S3, l3, rfl, R3, I3, hr3, M2.trans M3, rfl⟩
    have zz : (n :: l1).length = l1.length + 1 := List.length_cons
    unfold Lss at L3
    rw [e3] at L3
    have L3 : unE Kn S3 < unE Kn S1 ∨ (unE Kn S3 = unE Kn S1 ∧ (S3.there.length < S1.there.length ∨ (S3.there.length = S1.there.length ∧ l3.length ≤ l1.length))) := L3
    rcases L3 with q | ⟨q, q2 | ⟨q2, q3⟩⟩ <;> omega
/-! ### turn -/
theorem scTurn : FnScope ["self", "thing"] ["self", "thing"] (defScope sTurn) := ⟨rfl, rfl, rfl, by decide +kernel, rfl, by decide +kernel, by decide +kernel⟩
theorem ok_turn {V0 k : Nat} (T : Txt K mg C CH CE) (N : Fns K C CH CE) (h3 : 3 ≤ k) (G : FnOk P w K mg base CX0 k N.aAsk N.dAsk ["self", "thing"] (spAsk C CH CE V0)) :
    FnOk P w K mg base CX0 (k + 1) N.aTurn N.dTurn ["self", "thing"] (spTurn C CH CE V0) := by
  have GB : FnOk P w K mg base CX0 1 N.aBeGone N.dBeGone ["self", "thing"] (spBeGone C CH CE) := ok_begone N.FBeGone T
  have GE : FnOk P w K mg base CX0 3 N.aEmpty N.dEmpty ["self", "thing"] (spEmpty C CH CE) := ok_empty N.FEmpty T N.FLoose N.bLoose N.mLoose N.FLetGo N.bLetGo N.mLetGo
  refine N.FTurn.ok scTurn (fun vs H Q E h => ?_) (fun cdv A outer s H vs Q E hr h => ?_)
  · obtain ⟨W, S, F, Kn, ext, act, sus, r, l, n, _, rfl, _⟩ := h
    rfl
  obtain ⟨W, S, F, Kn, ext, act, sus, r, l, n, ⟨⟨rfl, rfl, rfl⟩, R, PL, hu0, hK⟩, rfl, hrow, I, k⟩ := h
  have hu := hu_of hr
  refine ⟨_, pss_cons (ps_fld (pv 1) pe_bl rfl) (pss_cons (ps_if (PW.pt (pw_or (pt_cmpR op_gt (pe_fld (pv 1) rfl) pe_int (nomark _)) (pw_or1 (pt_cmp (pc_dnotin hu (pe_fld (pv 1) rfl) (pe_fld (pv 0) rfl)))))) (pss_one ps_retN) pss_nil)
    (pss_cons (ps_fldaug (pv 1) pe_int in_add) (pss_cons (ps_expr (pe_meth (pv 0) T.clH N.mAsk G hr N.bAsk .nil pass0 (pa_cons (pv 1) pa_nil)))
    (pss_cons (ps_fldaug (pv 1) pe_int in_sub) (pss_one (ps_if (pt_cmpR op_eq (pe_fld (pv 1) rfl) pe_int (nomark _))
      (pss_cons (ps_expr (pe_meth (pv 0) T.clH N.mBeGone GB (hr.mono (by omega)) N.bBeGone .nil pass0 (pa_cons (pv 1) pa_nil)))
        (pss_one (ps_expr (pe_meth (pv 0) T.clH N.mEmpty GE (hr.mono h3) N.bEmpty .nil pass0 (pa_cons (pv 1) pa_nil))))) pss_nil)))))), ?_⟩
  obtain ⟨I1, hT, hno⟩ := inv_shift I
  have eP : S.pop n r l = S.wt n false := by
    unfold Hs.pop
    exact row_eta hrow
  rw [eP] at I1
  have hT : n ∈ S.there := hT
  have hn : 1 ≤ n ∧ n ≤ S.many := I1.rng hT
  refine ⟨_, rfl, _, W.C, _, _, rfl, R.th hn, T.cl, T.nWaits, tf_len _ _, ?_⟩
  have R1 := R.wt hn false
  have M1 : Mo Kn 0 S (S.wt n false) := wt_mo _ _ _
  generalize hS1 : S.wt n false = S1 at R1 M1 I1
  have hrow1 : S1.row = some (r, l) := by rw [← hS1]; exact hrow
  have hT1 : n ∈ S1.there := by rw [← hS1]; exact hT
  have eT1 : S1.there = S.there := by rw [← hS1]; rfl
  have hn1 := I1.rng hT1
  have erl1 : S1.rl = l := by unfold Hs.rl; rw [hrow1]
  have ead1 : (S1.th n).ad = (S.th n).ad := M1.ad n hn.2
  have hth1 := R1.th hn1
  rw [ead1] at hth1
  have u1 : unE Kn S1 = unE Kn S := by rw [← hS1]; exact unE_same fun m => ended_set (by rfl) m
  refine ⟨_, rfl, _, W.C, _, _, _, rfl, hth1, T.cl, T.nCount, tf_count _ _, _, _, rfl, rfl, _, rfl, ?_⟩
  by_cases c : 0 < (S1.th n).count
  · rw [decide_eq_true c]
    refine iteT (iteT ?_)
    refine k S1 _ R1 (inv_exc I1 (.inl (by omega))) ⟨l, hrow1⟩ M1 (.inr ⟨u1, .inr ⟨by rw [eT1], by rw [erl1]; exact Nat.le_refl _⟩⟩)
  · rw [decide_eq_false c]
    refine iteF ?_
    have c0 : (S1.th n).count = 0 := by
      have := I1.pos hT1
      omega
    have h0 := thKvs_has hT1
    refine ⟨_, rfl, _, W.C, _, _, _, rfl, hth1, T.cl, T.nNumber, tf_number _ _, _, rfl, _, W.CH, _, _, _, rfl, R1.hall, T.clH, T.nThere, hf_there _ _, _, _, rfl, DGet.k (k := Sum.inl (n : Int)) R1.thd, _, rfl, ?_⟩
    rw [h0]
    refine iteF ?_
    refine ⟨_, rfl, _, W.C, _, _, _, rfl, hth1, T.cl, T.nCount, tf_count _ _, _, _, rfl, rfl, _, _, hth1, tf_len _ _, ?_⟩
    have R2 := R1.cn hn1 ((S1.th n).count + 1)
    rw [ead1] at R2
    have I2 := inv_push I1 hT1 (by rw [erl1]; exact hno)
    have M2 : Mo Kn 0 S (S1.cn n ((S1.th n).count + 1)) := M1.trans (cn_mo _ _ _)
    have ct2 : ((S1.cn n ((S1.th n).count + 1)).th n).count = 1 := by rw [cn_count, c0]; rfl
    have u2 : unE Kn (S1.cn n ((S1.th n).count + 1)) = unE Kn S := (unE_same fun m => ended_set (by rfl) m).trans u1
    generalize hS2 : S1.cn n ((S1.th n).count + 1) = S2 at R2 I2 M2 ct2 u2
    have hrow2 : S2.row = some (r, l) := by rw [← hS2]; exact hrow1
    have eT2 : S2.there = S.there := by rw [← hS2]; exact eT1
    have erf2 : S2.rf n = S.rf n := by unfold Hs.rf; rw [M2.ad n hn.2]
    refine ⟨_, rfl, _, _, _, rfl, R2.hall, hf_no_ask_last _ _, _, rfl, W, S2, F, Kn, ext, n :: act, sus, r, l, n, ⟨⟨rfl, rfl, rfl⟩, R2, PL.step (Nat.le_trans I1.km (Nat.le_of_eq (by rw [← hS1]; rfl))) M2 (Same.refl F), Nat.lt_of_le_of_lt M2.u hu0, hK⟩, by rw [erf2]; rfl, hrow2, I2, List.mem_cons_self, fun S3 H3 R3 I3 hrow3 M3 hend L3 => ?_⟩
    have M03 : Mo Kn 0 S S3 := M2.trans M3
    have hT3 : n ∈ S3.there := I3.av n List.mem_cons_self
    have hn3 := I3.rng hT3
    have ead3 : (S3.th n).ad = (S.th n).ad := M03.ad n hn.2
    have hth3 := R3.th hn3
    rw [ead3] at hth3
    refine ⟨_, rfl, _, W.C, _, _, _, rfl, hth3, T.cl, T.nCount, tf_count _ _, _, _, rfl, rfl, _, _, hth3, tf_len _ _, ?_⟩
    have R4 := R3.cn hn3 ((S3.th n).count - 1)
    rw [ead3] at R4
    have I4 := inv_pop I3
    have M4 : Mo Kn 0 S (S3.cn n ((S3.th n).count - 1)) := M03.trans (cn_mo _ _ _)
    have ct4 : ((S3.cn n ((S3.th n).count - 1)).th n).count = (S3.th n).count - 1 := cn_count _ _ _
    have u4 : unE Kn (S3.cn n ((S3.th n).count - 1)) = unE Kn S3 := unE_same fun m => ended_set (by rfl) m
    have end4 : ((S3.cn n ((S3.th n).count - 1)).th n).ended = true := by
      rw [show ((S3.cn n ((S3.th n).count - 1)).th n).ended = (S3.th n).ended from ended_set (by rfl) n]
      exact hend
    have hw3 : ¬ n ∈ sus ++ S3.rl := I3.wa n List.mem_cons_self
    generalize hc3 : (S3.th n).count - 1 = c3 at R4 I4 M4 ct4 u4 end4
    generalize hS4 : S3.cn n c3 = S4 at R4 I4 M4 ct4 u4 end4
    have hrow4 : S4.row = some (r, l) := by rw [← hS4]; exact hrow3
    have eT4 : S4.there = S3.there := by rw [← hS4]; rfl
    have hT4 : n ∈ S4.there := by rw [eT4]; exact hT3
    have hn4 := I4.rng hT4
    have ead4 : (S4.th n).ad = (S.th n).ad := M4.ad n hn.2
    have hth4 := R4.th hn4
    rw [ead4] at hth4
    have erl4 : S4.rl = l := by unfold Hs.rl; rw [hrow4]
    have hw4 : ¬ n ∈ sus ++ S4.rl := by
      have e0 : S3.rl = l := by unfold Hs.rl; rw [hrow3]
      rw [erl4, ← e0]
      exact hw3
    rw [tf_put_count]
    have hth4' : (upd H3 (S.th n).ad (.ins W.C (S3.th n).dx (tf { S3.th n with count := c3 } n))) (S.th n).ad = some (.ins W.C (S4.th n).dx (tf (S4.th n) n)) := by
      rw [← tf_put_count]
      exact hth4
    refine ⟨_, rfl, _, W.C, _, _, _, rfl, hth4', T.cl, T.nCount, tf_count _ _, rfl, _, rfl, ?_⟩
    rw [ct4]
    rw [tf_put_count] at R4
    by_cases z : c3 = 0
    · rw [if_pos z] at I4
      rw [decide_eq_true (by rw [z] : V.int c3 = V.int 0)]
      refine iteT ?_
      have erf4 : S4.rf n = S.rf n := by unfold Hs.rf; rw [ead4]
      have hl4 : S4.left.length < 1000 := by
        have := I4.llen
        have := I4.many_le
        omega
      refine ⟨_, rfl, _, _, _, rfl, R4.hall, hf_no_be_gone _ _, _, rfl, W, S4, F, n, ⟨rfl, rfl, rfl⟩, by rw [erf4]; rfl, R4, hn4, hT4, hl4, fun H5 R5 => ?_⟩
      have I5 := inv_gone I4 hT4 (by rw [ct4]; exact z) hw4 end4
      obtain ⟨pk1, pk2⟩ := I4.pk n hT4
      have M5 : Mo Kn 0 S (S4.goes n) := M4.trans (goes_mo _ _)
      have erf5 : (S4.goes n).rf n = S.rf n := by
        show S4.rf n = _
        exact erf4
      have hnot : ¬ n ∈ (S4.goes n).there := fun q => by
        have := (List.mem_filter.mp q).2
        simp at this
      refine ⟨_, rfl, _, _, _, rfl, R5.hall, hf_no_empty _ _, _, rfl, W, S4.goes n, F, n, Kn, ext, act, sus, r, l, ⟨rfl, rfl, rfl⟩, by rw [erf5]; rfl, R5, hn4, hnot, hrow4, pk1, I4.plen hT4, hK, I5, fun S6 H6 R6 I6 M6 eT6 hr6 => ?_⟩
      refine k S6 H6 R6 I6 ?_ (M5.trans M6) ?_
      · obtain ⟨l2, q⟩ := hr6
        exact ⟨_, q⟩
      · have uu : unE Kn S6 ≤ unE Kn S3 := by
          have a1 := M6.u
          have a2 : unE Kn (S4.goes n) = unE Kn S4 := rfl
          omega
        have tl : S6.there.length + 1 = S3.there.length := by
          rw [eT6]
          show (S4.there.filter _).length + 1 = _
          rw [len_filter I4.tnd hT4, eT4]
        rcases L3 with q | ⟨q1, q2, q3⟩
        · exact .inl (by omega)
        · by_cases y : unE Kn S6 < unE Kn S
          · exact .inl y
          · refine .inr ⟨by omega, .inl ?_⟩
            rw [q2, eT2] at tl
            omega
    · rw [if_neg z] at I4
      rw [decide_eq_false fun y => z (V.int.inj y)]
      refine iteF ?_
      refine k S4 _ R4 I4 ⟨l, hrow4⟩ M4 ?_
      rcases L3 with q | ⟨q1, q2, q3⟩
      · exact .inl (by omega)
      · exfalso
        omega
end
end Snk
namespace Snk
open PySem L2
section
variable {P : Program} {w : World} {K : PySem.W.Frag} {mg : Str → Option Value} {base : Heap} {C CH CE : Addr}
/-! ### ask_last -/
theorem scAsk : FnScope ["self", "thing", "row"] ["self", "thing"] (defScope sAskLast) := ⟨rfl, rfl, rfl, by decide +kernel, rfl, by decide +kernel, by decide +kernel⟩
theorem ok_ask {V0 k : Nat} (T : Txt K mg C CH CE) (N : Fns K C CH CE) (G : FnOk P w K mg base CX0 k N.aLast N.dLast ["self", "thing"] (spLast C CH CE V0)) :
    FnOk P w K mg base CX0 (k + 1) N.aAsk N.dAsk ["self", "thing"] (spAsk C CH CE (V0 + 1)) := by
  refine N.FAsk.ok scAsk (fun vs H Q E h => ?_) (fun cdv A outer s H vs Q E hr h => ?_)
  · obtain ⟨W, S, F, Kn, ext, act, sus, r, l, n, _, rfl, _⟩ := h
    rfl
  obtain ⟨W, S, F, Kn, ext, act, sus, r, l, n, ⟨⟨rfl, rfl, rfl⟩, R, PL, hu0, hK⟩, rfl, hrow, I, hna, k⟩ := h
  have hT := I.av n hna
  have hn := I.rng hT
  refine ⟨_, pss_cons (ps_if (PW.pt (pw_or (pt_cmp (pc_isN (pe_fld (pv 0) rfl))) (pw_or1 (pt_val (pe_fld (pv 1) rfl))))) (pss_one ps_retN) pss_nil)
    (pss_cons (ps_fld (pv 1) pe_bl rfl) (pss_cons (ps_set (i := 2) scAsk.nd rfl (Or.inl rfl) (pe_fld (pv 0) rfl)) (pss_cons (ps_fld (pv 0) pe_non rfl)
    (pss_cons (ps_fldaug (pv 0) pe_int in_add) (pss_cons (ps_expr (pe_meth (pe_fld (pv 0) rfl) T.clE N.mLast G hr N.bLast .nil pass0 (pa_cons (pv 1) pa_nil)))
    (pss_cons (ps_fldaug (pv 0) pe_int in_sub) (pss_one (ps_fld (pv 0) (pv 2) rfl)))))))), ?_⟩
  refine ⟨_, rfl, _, W.CH, _, _, _, rfl, R.hall, T.clH, T.nEnder, hf_ender _ _, _, rfl, ?_⟩
  refine iteF ?_
  refine ⟨_, rfl, _, W.C, _, _, _, rfl, R.th hn, T.cl, T.nEnded, tf_ended _ _, _, rfl, ?_⟩
  cases hend : (S.th n).ended with
  | true =>
    refine iteT ?_
    exact k S _ R I hrow (Mo.refl S) hend (.inr ⟨rfl, rfl, rfl⟩)
  | false =>
    refine iteF ?_
    refine ⟨_, rfl, _, W.C, _, _, rfl, R.th hn, T.cl, T.nEnded, tf_len _ _, ?_⟩
    have R1 := R.ended hn
    have erow1 : rowV (S.en n) = .ref r := by
      show rowO S.row = _
      rw [hrow]
      rfl
    refine ⟨_, rfl, _, W.CH, _, _, _, rfl, R1.hall, T.clH, T.nRow, hf_row _ _, ?_⟩
    rw [erow1]
    refine ⟨_, rfl, _, W.CH, _, _, rfl, R1.hall, T.clH, T.nRow, hf_len _ _, ?_⟩
    have hrow1 : (S.en n).row = some (r, l) := hrow
    have hF : F r = none := by
      cases q : F r with
      | none => rfl
      | some o =>
        exfalso
        refine R.dj r o .row q ?_
        show S.row.map (·.1) = some r
        rw [hrow]
        rfl
    have R2 := R1.rowOff hrow1
    have M1 : Mo Kn 0 S (S.en n) := en_mo _ _
    have M2 : Mo Kn 0 S { S.en n with row := none } := M1.trans (row_mo _ _)
    refine ⟨_, rfl, _, W.CH, _, _, _, rfl, R2.hall, T.clH, T.nLasts, hf_lasts _ _, _, _, rfl, rfl, _, _, R2.hall, hf_len _ _, ?_⟩
    have R3 := R2.lasts (({ S.en n with row := none } : Hs).lasts + 1)
    have M3 : Mo Kn 0 S { ({ S.en n with row := none } : Hs) with lasts := ({ S.en n with row := none } : Hs).lasts + 1 } := M2.trans (lasts_mo _ _)
    have I1 := inv_ended I hT hend
    have I2 := inv_aside (r := r) (l := l) I1 hrow
    have I3 : Inv Kn { ({ ({ S.en n with row := none } : Hs) with lasts := ({ S.en n with row := none } : Hs).lasts + 1 } : Hs) with nums := S.nums ++ [n] } ext act (sus ++ l) 0 := inv_lasts I2 _
    have cnt3 : ((S.en n).th n).count = (S.th n).count := count_set (by rfl) n
    have end3 : ((S.en n).th n).ended = true := by
      show ((S.set n _).th n).ended = true
      rw [set_same]
    have u3 : unE Kn ({ ({ S.en n with row := none } : Hs) with lasts := ({ S.en n with row := none } : Hs).lasts + 1 } : Hs) = unE Kn (S.en n) := rfl
    generalize hS3 : ({ ({ S.en n with row := none } : Hs) with lasts := ({ S.en n with row := none } : Hs).lasts + 1 } : Hs) = S3 at R3 M3 I3 u3
    have hrow3 : S3.row = none := by rw [← hS3]
    have hnum3 : S3.nums = S.nums := by rw [← hS3]; rfl
    have hT3 : n ∈ S3.there := by rw [← hS3]; exact hT
    have hth3 : S3.there = S.there := by rw [← hS3]; rfl
    have hm3 : S3.many = S.many := by rw [← hS3]; rfl
    have ht3 : (S3.th n) = (S.en n).th n := by rw [← hS3]
    have erf3 : S3.rf n = S.rf n := by unfold Hs.rf; rw [M3.ad n hn.2]
    have hrf : (S.en n).rf = S.rf := rf_fun (by rfl)
    rw [hrf] at R3
    have PL3 : PlF Kn S3 (upd F r (.lst (l.map S.rf))) := PL.step I.km M3 (same_upd hF _)
    refine ⟨_, rfl, _, W.CH, _, _, _, rfl, R3.hall, T.clH, T.nEnder, hf_ender _ _, _, _, _, rfl, R3.en, ef_no_last _, _, rfl, W, S3, _, Kn, ext, act, sus ++ l, n, ⟨rfl, rfl, rfl⟩, R3, PL3, hK, by rw [erf3]; rfl, hrow3, ?_, hT3, fun hle => ?_, fun S4 H4 R4 I4 hrow4 M4 hbig => ?_⟩
    · rw [hnum3]
      exact I3
    · have a1 := unE_en_lt Kn S n hn.1 hle hend
      have a2 := I.bud
      rw [u3, hm3]
      omega
    have M04 : ∀ m, m ≤ S.many → (S4.th m).ad = (S.th m).ad := fun m hm => (M4.ad m (by rw [hm3]; exact hm)).trans (M3.ad m hm)
    refine ⟨_, rfl, _, W.CH, _, _, _, rfl, R4.hall, T.clH, T.nLasts, hf_lasts _ _, _, _, rfl, rfl, _, _, R4.hall, hf_len _ _, ?_⟩
    have R5 := R4.lasts (S4.lasts - 1)
    refine ⟨_, rfl, _, rfl, _, W.CH, _, _, rfl, R5.hall, T.clH, T.nRow, hf_len _ _, ?_⟩
    have hlm : l.map S.rf = l.map ({ S4 with lasts := S4.lasts - 1 } : Hs).rf := List.map_congr_left fun m hm => by
      have q := (I.rng (I.wt m (List.mem_append_right _ (by unfold Hs.rl; rw [hrow]; exact hm)))).2
      show V.ref (S.th m).ad = V.ref (S4.th m).ad
      rw [M04 m q]
    have hr5 := R5.fr r _ upd_same
    have R6 := R5.rowOn (F := F) (r := r) (l := l) (by rw [hr5, hlm]) (fun q hq => R5.dj r _ q upd_same hq) fun b o hb => ⟨by
      rw [upd_ne fun z => by rw [z, hF] at hb; cases hb]
      exact hb, fun z => by rw [z, hF] at hb; cases hb⟩
    have I6 := inv_again (r := r) (l := l) (inv_lasts I4 (S4.lasts - 1)) hrow4
    have M6 : Mo Kn (if n ≤ Kn then 3 else 0) S3 ({ ({ S4 with lasts := S4.lasts - 1 } : Hs) with row := some (r, l) } : Hs) := (M4.trans (lasts_mo _ _)).trans (row_mo _ _)
    obtain ⟨S6, hS6⟩ : ∃ S6 : Hs, S6 = ({ ({ S4 with lasts := S4.lasts - 1 } : Hs) with row := some (r, l) } : Hs) := ⟨_, rfl⟩
    have e6a : S6.row = some (r, l) := by rw [hS6]
    have e6b : S6.there = S4.there := by rw [hS6]
    have e6c : S6.th = S4.th := by rw [hS6]
    have e6d : unE Kn S6 = unE Kn S4 := by rw [hS6]; rfl
    have I6' : Inv Kn S6 ext act sus 0 := by rw [hS6]; exact I6
    have M6' : Mo Kn (if n ≤ Kn then 3 else 0) S3 S6 := by rw [hS6]; exact M6
    have q6 := M6'.bud
    have q0 := M6'.u
    have q1 := unE_en_le Kn S n
    have ad6 : ∀ m, m ≤ S.many → (S6.th m).ad = (S.th m).ad := fun m hm => by rw [e6c]; exact M04 m hm
    have bud6 : S6.many + 3 * unE Kn S6 ≤ S.many + 3 * unE Kn S + 0 := by
      by_cases c : n ≤ Kn
      · rw [if_pos c] at q6
        have a1 := unE_en_lt Kn S n hn.1 c hend
        omega
      · rw [if_neg c] at q6
        omega
    refine k S6 _ (by rw [hS6]; exact R6) I6' e6a ⟨Nat.le_trans M3.many M6'.many, ad6, M6'.plans.trans M3.plans, by omega, bud6, fun m hm e => M6'.en m (by rw [hm3]; exact hm) (M3.en m hm e)⟩ ?_ ?_
    · exact M6'.en n (by rw [hm3]; exact hn.2) (by rw [ht3]; exact end3)
    · by_cases c : n ≤ Kn
      · have a1 := unE_en_lt Kn S n hn.1 c hend
        exact .inl (by omega)
      · obtain ⟨b1, b2, b3⟩ := hbig (by omega)
        refine .inr ⟨?_, e6b.trans (b1.trans hth3), ?_⟩
        · have b4 := unE_en_eq Kn S n (by omega)
          omega
        · rw [e6c, b2, ht3]
          exact cnt3
/-! ### last -/
theorem tYes_of {σ : L2.St} {H : Hp} {Q : Bool → Hp → Prop} (h : Q true H) : tYes σ H Q := h
theorem scLast : FnScope ["self", "thing", "deed", "one"] ["self", "thing"] (defScope sLast) := ⟨rfl, rfl, rfl, by decide +kernel, rfl, by decide +kernel, by decide +kernel⟩
theorem plKvs_get {S : Hs} {n : Nat} {v : V} (h : valV (plKvs S) (Sum.inl (n : Int)) = some v) : ∃ a, (n, a) ∈ S.plans ∧ v = .ref a := by
  obtain ⟨kv, h1, h2, h3⟩ := valV_mem h
  obtain ⟨p, hp, rfl⟩ := List.mem_map.mp h1
  have e := Sum.inl.inj h3
  have : p.1 = n := by omega
  exact ⟨p.2, by rw [← this]; exact hp, h2.symm⟩
theorem ok_last {V0 k : Nat} (T : Txt K mg C CH CE) (N : Fns K C CH CE) (h1k : 1 ≤ k) (G : FnOk P w K mg base CX0 k N.aDo N.dDo ["self", "deed"] (spDo C CH CE V0)) :
    FnOk P w K mg base CX0 (k + 1) N.aLast N.dLast ["self", "thing"] (spLast C CH CE V0) := by
  have GI : FnOk P w K mg base CX0 1 N.aIs N.dIs ["self", "value"] (spIs C CH CE) := ok_is T N
  refine N.FLast.ok scLast (fun vs H Q E h => ?_) (fun cdv A outer s H vs Q E hr h => ?_)
  · obtain ⟨W, S, F, Kn, ext, act, sus, n, _, _, _, _, rfl, _⟩ := h
    rfl
  obtain ⟨W, S, F, Kn, ext, act, sus, n, ⟨rfl, rfl, rfl⟩, R, PL, hK, rfl, hrow, I, hT, hsl, k⟩ := h
  have hu := hu_of hr
  have hn := I.rng hT
  have hr1 : Room 1 _ := hr.mono h1k
  refine ⟨_, pss_cons (ps_expr (pe_bm PySem.F.plainAttrs_list PySem.F.slot_list_append PySem.F.type_list_append mt_append (pe_fld (pv 0) rfl) (pa_cons (pe_fld (pv 1) rfl) pa_nil)))
    (pss_one (ps_for PassesOwn.never rfl (pi_list (pe_dget2 hu (pe_fld (pv 0) rfl) (pe_fld (pv 1) rfl) (pe_lst pa_nil) ⟨rfl, rfl, rfl, rfl⟩)) (pg_name (i := 2) scLast.nd rfl (Or.inl rfl))
      (pss_one (ps_if (pt_val (pe_callB (cr_all rfl) (by rfl) T.all (by decide +kernel) (pa_cons
          (pe_lc (own := [("one", 3)]) (g := gName 3) (tt := tYes) rfl scLast.nd (pi_tup (pv 2)) (blkOk_by (N := ["self", "thing", "deed", "one"]) (sc := defScope sLast) (by decide +kernel)) (fun _ _ _ _ _ => pg_name (i := 3) scLast.nd rfl (Or.inl rfl)) (fun _ _ _ _ _ => pts_nil)
            (fun _ _ _ _ _ => pe_meth (pv 0) T.clE N.mIs GI hr1 N.bIs .nil pass0 (pa_cons (pv 3) pa_nil))) pa_nil)))
        (pss_one (ps_expr (pe_meth (pv 0) T.clE N.mDo G hr N.bDo .nil pass0 (pa_cons (pv 2) pa_nil)))) pss_nil)))), ?_⟩
  refine ⟨_, rfl, _, W.CE, _, _, _, rfl, R.en, T.clE, T.nNumbers, ef_numbers _, .inl ⟨rfl, _, SqL.of R.nm⟩, _, rfl, _, W.C, _, _, _, rfl, R.th hn, T.cl, T.nNumber, tf_number _ _, _, _, _, rfl, rfl, R.nm, ?_, ?_⟩
  · show (S.nums.map _).length < sizeLine
    rw [List.length_map]
    have a2 : S.many ≤ 4 * Kn := I.many_le
    have a3 : (S.nums ++ [n]).length ≤ S.many := I.nlen
    rw [List.length_append, List.length_singleton] at a3
    exact small1000 (by omega)
  have R1 := R.nmw (S.nums ++ [n])
  have e : natV (S.nums ++ [n]) = natV S.nums ++ [V.int (n : Int)] := by
    unfold natV
    rw [List.map_append]
    rfl
  rw [e] at R1
  have M1 : Mo Kn 0 S { S with nums := S.nums ++ [n] } := nums_mo _ _
  refine ⟨_, rfl, _, W.CE, _, _, _, rfl, R1.en, T.clE, T.nPlans, ef_plans _, _, rfl, .inl ⟨_, .inl R1.pl⟩, _, rfl, _, W.C, _, _, _, rfl, R1.th hn, T.cl, T.nNumber, tf_number _ _, Nat.zero_le _, fun p hp => ?_⟩
  have R2 := R1.fnew hp (.lst [])
  have hFp : F p = none := R1.ffree hp
  have PL2 : PlF Kn { S with nums := S.nums ++ [n] } (upd F p (.lst [])) := PL.step I.km M1 (same_upd hFp _)
  refine ⟨_, DGet.k (k := Sum.inl (n : Int)) R2.pl, ?_⟩
  -- the list that is walked
  have src : ∃ (a0 : Addr) (ts : List (Addr × Deed)), ((valV (plKvs S) (Sum.inl (n : Int))).getD (.ref p)) = .ref a0 ∧ ts.length ≤ 3 ∧ (upd F p (.lst [])) a0 = some (.lst (ts.map fun t => V.ref t.1)) ∧
      (∀ t, t ∈ ts → dOk Kn t.2 ∧ (upd F p (.lst [])) t.1 = some (.tup (dV S t.2))) ∧ (Kn < n → ts = []) := by
    cases q : valV (plKvs S) (Sum.inl (n : Int)) with
    | none => exact ⟨p, [], rfl, Nat.zero_le _, upd_same, (fun t ht => nomatch ht), fun _ => rfl⟩
    | some v =>
      obtain ⟨a, ha, rfl⟩ := plKvs_get q
      obtain ⟨b1, ts, b2, b3, b4⟩ := PL2 (n, a) ha
      exact ⟨a, ts, rfl, b2, b3, b4, fun z => by have := b1.2; simp only at this; omega⟩
  obtain ⟨a0, ts, ea, hts, hal, htt, hbig⟩ := src
  have ea' : ((valV (plKvs { S with nums := S.nums ++ [n] }) (Sum.inl (n : Int))).getD (.ref p)) = .ref a0 := ea
  rw [ea']
  generalize hS1 : ({ S with nums := S.nums ++ [n] } : Hs) = S1 at R1 R2 M1 I PL2
  have em1 : S1.many = S.many := by rw [← hS1]
  have eu1 : unE Kn S1 = unE Kn S := by rw [← hS1]; rfl
  have hrow1 : S1.row = none := by rw [← hS1]; exact hrow
  have hts' : ∀ t, t ∈ ts → dOk Kn t.2 ∧ (upd F p (.lst [])) t.1 = some (.tup (dV S1 t.2)) := fun t ht => by
    obtain ⟨z1, z2⟩ := htt t ht
    refine ⟨z1, ?_⟩
    rw [dV_mo (fun m hm => M1.ad m (Nat.le_trans hm (by have := I.km; omega))) z1]
    exact z2
  generalize hF1 : upd F p (.lst []) = F1 at R2 PL2 hal hts'
  refine ⟨a0, rfl, ⟨_, SqL.of (R2.fr _ _ hal)⟩, ?_⟩
  refine for_list (K := K) (a := a0) (xs := ts.map fun t => V.ref t.1) (fun i σ H' => ∃ (S' : Hs) (v : Option V), σ = [some (.ref W.e), some (S.rf n), v, none] ∧ Rep W S' F1 H' ∧ Inv Kn S' ext act sus 0 ∧ S'.row = none ∧ Mo Kn i S1 S' ∧ (ts = [] → S' = S1))
    ⟨S1, none, rfl, R2, I, hrow1, Mo.refl _, fun _ => rfl⟩ (fun i σ H' _ ⟨S', v, _, R', _⟩ => SqL.of (R'.fr _ _ hal)) ?_ ?_
  · rintro i y σ H' hi ⟨S', v, rfl, R', I', hrow', M', _⟩
    rw [List.getElem?_map] at hi
    cases et : ts[i]? with
    | none =>
      rw [et] at hi
      cases hi
    | some t =>
      rw [et] at hi
      have hy : V.ref t.1 = y := Option.some.inj hi
      subst hy
      obtain ⟨hilt, _⟩ := List.getElem?_eq_some_iff.mp et
      have htm : t ∈ ts := List.mem_of_getElem? et
      have hne : ts ≠ [] := fun z => by rw [z] at htm; cases htm
      have hnK : n ≤ Kn := by
        apply Classical.byContradiction
        intro z
        exact hne (hbig (by omega))
      obtain ⟨hu3, hsl3⟩ := hsl hnK
      obtain ⟨hdk, htup⟩ := hts' t htm
      have hdV : dV S' t.2 = dV S1 t.2 := dV_mo (fun m hm => M'.ad m (Nat.le_trans hm I.km)) hdk
      rw [← hdV] at htup
      have ht' := R'.fr _ _ htup
      -- all([self.is_there(one) for one in deed])
      refine ⟨_, rfl, t.1, rfl, ⟨_, SqT.of ht'⟩, fun D hD => ?_⟩
      have hFD : F1 D = none := R'.ffree hD
      have hDt : t.1 ≠ D := fun z => by rw [z, hFD] at htup; cases htup
      refine lc_tup (K := K) (a := t.1) (xs := dV S' t.2) (fun j H2 => Rep W S' (upd F1 D (.lst (((dB S' t.2).take j).map V.bl))) H2) (R'.fnew hD _) (fun j H2 _ R2' => SqT.of (R2'.fr _ _ (by rw [upd_ne hDt]; exact htup))) ?_ ?_
      · intro j x H2 hj Rj
        obtain ⟨b, hb, hx⟩ := dB_at hdk I'.km hj
        refine ⟨rfl, ?_⟩
        refine tYes_of ?_
        refine iteT ?_
        have htake : (((dB S' t.2).take (j + 1)).map V.bl) = (((dB S' t.2).take j).map V.bl) ++ [V.bl b] := by
          rw [List.take_succ, hb, List.map_append]
          rfl
        have hlen : (((dB S' t.2).take j).map V.bl).length < sizeLine := by
          rw [List.length_map, List.length_take]
          have : (dB S' t.2).length ≤ 4 := by cases t.2 <;> simp [dB]
          exact small1000 (by omega)
        have hacc := Rj.fr D _ upd_same
        have nxt : Rep W S' (upd F1 D (.lst (((dB S' t.2).take (j + 1)).map V.bl))) (upd H2 D (.lst (((dB S' t.2).take j).map V.bl ++ [V.bl b]))) := by
          rw [htake]
          have q := Rj.fupd (p := D) upd_same (.lst (((dB S' t.2).take j).map V.bl ++ [V.bl b]))
          rw [upd_upd] at q
          exact q
        refine ⟨_, rfl, _, _, _, rfl, Rj.en, ef_no_is_there _, _, rfl, W, S', _, x, ⟨rfl, rfl, rfl⟩, rfl, Rj, ?_⟩
        rcases hx with ⟨hp1, rfl⟩ | ⟨m, hm1, hm2, rfl⟩
        · exact .inl ⟨hp1, _, hacc, hlen, nxt⟩
        · exact .inr ⟨m, hm1, hm2, _, hacc, hlen, nxt⟩
      · intro H2 RD
        rw [← dB_len, List.take_length] at RD
        have hD2 := RD.fr D _ upd_same
        refine ⟨D, dB S' t.2, rfl, SqL.of hD2, _, rfl, ?_⟩
        have RF : Rep W S' F1 H2 := RD.fsub (same_upd hFD _)
        cases hall : (dB S' t.2).all id with
        | false =>
          refine iteF ?_
          exact ⟨S', _, rfl, RF, I', hrow', M'.le (Nat.le_succ _), fun z => absurd z hne⟩
        | true =>
          refine iteT ?_
          have bud1 := M'.bud
          refine ⟨_, rfl, _, _, _, rfl, RF.en, ef_no_do _, _, rfl, W, S', F1, Kn, ext, act, sus, t.1, t.2, ⟨⟨rfl, rfl, rfl⟩, RF, PL2.step I.km M' (Same.refl _), by have := M'.u; omega, hK⟩, rfl, hrow', I', htup, hdk, dB_all hall, ?_, fun S'' H'' R'' I'' hr'' M'' => ?_⟩
          · have : i < 3 := by omega
            omega
          · exact ⟨S'', _, rfl, R'', I'', hr'', M'.trans M'', fun z => absurd z hne⟩
  · rintro σ H' ⟨S', v, rfl, R', I', hrow', M', hnil⟩
    rw [List.length_map] at M'
    refine k S' H' ?_ I' hrow' ?_ fun hgt => ?_
    · rw [← hF1] at R'
      exact R'.fsub (same_upd hFp _)
    · by_cases c : n ≤ Kn
      · rw [if_pos c]
        have M0 : Mo Kn 0 S S1 := M1
        exact (M0.trans M').le (by omega)
      · rw [if_neg c]
        have z := hbig (by omega)
        rw [z] at M'
        have M0 : Mo Kn 0 S S1 := M1
        exact M0.trans M'
    · rw [hnil (hbig hgt), ← hS1]
      exact ⟨rfl, rfl, rfl⟩
end
end Snk
namespace Snk
open PySem L2
section
variable {P : Program} {w : World} {K : PySem.W.Frag} {mg : Str → Option Value} {base : Heap} {C CH CE : Addr}
/-! ### do -/
theorem scDo : FnScope ["self", "deed"] ["self", "deed"] (defScope sDo) := ⟨rfl, rfl, rfl, by decide +kernel, rfl, by decide +kernel, by decide +kernel⟩
theorem n_ph : decide (V.str "put" = V.str "hold") = false := by decide +kernel
theorem n_pl : decide (V.str "put" = V.str "loose") = false := by decide +kernel
theorem n_pp : decide (V.str "put" = V.str "put") = true := by decide +kernel
theorem n_th : decide (V.str "take" = V.str "hold") = false := by decide +kernel
theorem n_tl : decide (V.str "take" = V.str "loose") = false := by decide +kernel
theorem n_tp : decide (V.str "take" = V.str "put") = false := by decide +kernel
theorem n_tt : decide (V.str "take" = V.str "take") = true := by decide +kernel
theorem n_mh : decide (V.str "make" = V.str "hold") = false := by decide +kernel
theorem n_ml : decide (V.str "make" = V.str "loose") = false := by decide +kernel
theorem n_mp : decide (V.str "make" = V.str "put") = false := by decide +kernel
theorem n_mt : decide (V.str "make" = V.str "take") = false := by decide +kernel
theorem n_mm : decide (V.str "make" = V.str "make") = true := by decide +kernel
theorem n_ts : decide (V.str "take" = V.str "sweep") = false := by decide +kernel
theorem n_tm : decide (V.str "take" = V.str "make") = false := by decide +kernel
/-- deed[i] -/
theorem tixt {X : Cx} {H : Hp} {t : Addr} {xs : List V} {σ : L2.St} {v : V} {Q : VK} (i : Nat) (hs : σ[1]? = some (some (.ref t))) (h : H t = some (.tup xs)) (hv : xs[i]? = some v) (q : Q v H) : tOp (rIxT X.K) (tVar 1) (tC (.int (i : Int))) σ H Q :=
  ⟨.ref t, hs, t, xs, (i : Int), v, rfl, rfl, SqT.of h, at_of rfl hv, q⟩
theorem ok_do {V0 k : Nat} (T : Txt K mg C CH CE) (N : Fns K C CH CE) (h3 : 3 ≤ k) (GP : FnOk P w K mg base CX0 k N.aPut N.dPut ["self", "thing", "key", "value"] (spPutB C CH CE V0)) (GT : FnOk P w K mg base CX0 k N.aTake N.dTake ["self", "thing", "key"] (spTakeB C CH CE V0)) :
    FnOk P w K mg base CX0 (k + 1) N.aDo N.dDo ["self", "deed"] (spDo C CH CE V0) := by
  have GM : FnOk P w K mg base CX0 3 N.aMake N.dMake ["self", "form", "own"] (spMake C CH CE) := ok_make T N
  refine N.FDo.ok scDo (fun vs H Q E h => ?_) (fun cdv A outer s H vs Q E hr h => ?_)
  · obtain ⟨W, S, F, Kn, ext, act, sus, t, d, _, rfl, _⟩ := h
    rfl
  obtain ⟨W, S, F, Kn, ext, act, sus, t, d, ⟨⟨rfl, rfl, rfl⟩, R, PL, hu0, hK⟩, rfl, hrow, I, htup, hd, hth, hsl, k⟩ := h
  have hu := hu_of hr
  have hr3 : Room 3 _ := hr.mono h3
  have ht := R.fr _ _ htup
  refine ⟨_, pss_one (ps_if (pt_cmpR op_eq (pe_ix ix_tup (pv 1) pe_int (fun _ _ => rfl)) pe_str (nomark _)) pss_never
    (pss_one (ps_if (PW.pt (pw_and (pt_cmpR op_eq (pe_ix ix_tup (pv 1) pe_int (fun _ _ => rfl)) pe_str (nomark _)) (pw_and1 pt_no))) pss_never
    (pss_one (ps_if (pt_cmpR op_eq (pe_ix ix_tup (pv 1) pe_int (fun _ _ => rfl)) pe_str (nomark _))
        (pss_one (ps_expr (pe_meth (pe_fld (pv 0) rfl) T.clH N.mPut GP hr N.bPut .nil pass0 (pa_cons (pe_ix ix_tup (pv 1) pe_int (fun _ _ => rfl)) (pa_cons (pe_ix ix_tup (pv 1) pe_int (fun _ _ => rfl)) (pa_cons (pe_ix ix_tup (pv 1) pe_int (fun _ _ => rfl)) pa_nil))))))
    (pss_one (ps_if (PW.pt (pw_and (pt_cmpR op_eq (pe_ix ix_tup (pv 1) pe_int (fun _ _ => rfl)) pe_str (nomark _)) (pw_and1 (pt_cmp (pc_din hu (pe_ix ix_tup (pv 1) pe_int (fun _ _ => rfl)) (pe_fld (pe_ix ix_tup (pv 1) pe_int (fun _ _ => rfl)) rfl))))))
        (pss_one (ps_expr (pe_meth (pe_fld (pv 0) rfl) T.clH N.mTake GT hr N.bTake .nil pass0 (pa_cons (pe_ix ix_tup (pv 1) pe_int (fun _ _ => rfl)) (pa_cons (pe_ix ix_tup (pv 1) pe_int (fun _ _ => rfl)) pa_nil)))))
    (pss_one (ps_if (pt_cmpR op_eq (pe_ix ix_tup (pv 1) pe_int (fun _ _ => rfl)) pe_str (nomark _))
        (pss_one (ps_expr (pe_meth (pe_fld (pv 0) rfl) T.clH N.mPut GP hr N.bPut .nil pass0 (pa_cons (pe_ix ix_tup (pv 1) pe_int (fun _ _ => rfl)) (pa_cons (pe_ix ix_tup (pv 1) pe_int (fun _ _ => rfl))
          (pa_cons (pe_meth (pe_fld (pv 0) rfl) T.clH N.mMake GM hr3 N.bMake .nil pass0 (pa_cons pe_str (pa_cons pe_non pa_nil))) pa_nil))))))
    (pss_one (ps_if (pt_cmpR op_eq (pe_ix ix_tup (pv 1) pe_int (fun _ _ => rfl)) pe_str (nomark _)) pss_never pss_nil))))))))))), ?_⟩
  cases d with
  | put a key b =>
    obtain ⟨h1, hk6, h2⟩ := hd
    obtain ⟨ha, hb⟩ := hth
    refine tixt (X := (cxOf CX0 P w K mg base ["self", "deed"] "Ends.do" (defScope sDo) N.aDo cdv A outer s H E).nox) 0 rfl ht rfl ?_
    refine ⟨rfl, _, rfl, ?_⟩
    rw [n_ph]
    refine iteF ?_
    refine tixt (X := (cxOf CX0 P w K mg base ["self", "deed"] "Ends.do" (defScope sDo) N.aDo cdv A outer s H E).nox) 0 rfl ht rfl ?_
    refine ⟨rfl, _, rfl, ?_⟩
    rw [n_pl]
    refine iteF (iteF ?_)
    refine tixt (X := (cxOf CX0 P w K mg base ["self", "deed"] "Ends.do" (defScope sDo) N.aDo cdv A outer s H E).nox) 0 rfl ht rfl ?_
    refine ⟨rfl, _, rfl, ?_⟩
    rw [n_pp]
    refine iteT ?_
    refine ⟨_, rfl, _, W.CE, _, _, _, rfl, R.en, T.clE, T.nHall, ef_hall _, _, _, _, rfl, R.hall, hf_no_put _ _, ?_⟩
    refine tixt (X := (cxOf CX0 P w K mg base ["self", "deed"] "Ends.do" (defScope sDo) N.aDo cdv A outer s H E).nox) 1 rfl ht rfl ?_
    refine tixt (X := (cxOf CX0 P w K mg base ["self", "deed"] "Ends.do" (defScope sDo) N.aDo cdv A outer s H E).nox) 2 rfl ht rfl ?_
    refine tixt (X := (cxOf CX0 P w K mg base ["self", "deed"] "Ends.do" (defScope sDo) N.aDo cdv A outer s H E).nox) 3 rfl ht rfl ?_
    refine ⟨W, S, F, Kn, ext, act, sus, a, key, S.rf b, 0, ⟨⟨rfl, rfl, rfl⟩, R, PL, hu0, hK⟩, rfl, hrow, I, ha, h1.2, hk6, .inr ⟨b, rfl, hb, .inl rfl⟩, fun S' H' R' I' hr' M' => k S' H' R' I' hr' (M'.le (by omega))⟩
  | take a key =>
    obtain ⟨h1, hk6⟩ := hd
    have ha : a ∈ S.there := hth
    have hn := I.rng ha
    refine tixt (X := (cxOf CX0 P w K mg base ["self", "deed"] "Ends.do" (defScope sDo) N.aDo cdv A outer s H E).nox) 0 rfl ht rfl ?_
    refine ⟨rfl, _, rfl, ?_⟩
    rw [n_th]
    refine iteF ?_
    refine tixt (X := (cxOf CX0 P w K mg base ["self", "deed"] "Ends.do" (defScope sDo) N.aDo cdv A outer s H E).nox) 0 rfl ht rfl ?_
    refine ⟨rfl, _, rfl, ?_⟩
    rw [n_tl]
    refine iteF (iteF ?_)
    refine tixt (X := (cxOf CX0 P w K mg base ["self", "deed"] "Ends.do" (defScope sDo) N.aDo cdv A outer s H E).nox) 0 rfl ht rfl ?_
    refine ⟨rfl, _, rfl, ?_⟩
    rw [n_tp]
    refine iteF ?_
    refine tixt (X := (cxOf CX0 P w K mg base ["self", "deed"] "Ends.do" (defScope sDo) N.aDo cdv A outer s H E).nox) 0 rfl ht rfl ?_
    refine ⟨rfl, _, rfl, ?_⟩
    rw [n_tt]
    refine iteT ?_
    refine tixt (X := (cxOf CX0 P w K mg base ["self", "deed"] "Ends.do" (defScope sDo) N.aDo cdv A outer s H E).nox) 2 rfl ht rfl ?_
    refine tixt (X := (cxOf CX0 P w K mg base ["self", "deed"] "Ends.do" (defScope sDo) N.aDo cdv A outer s H E).nox) 1 rfl ht rfl ?_
    refine ⟨_, W.C, _, _, _, rfl, R.th hn, T.cl, T.nParts, tf_parts _ _, _, _, rfl, DGet.k (k := key) (R.pd hn), _, rfl, ?_⟩
    cases hv : valV (S.th a).parts key with
    | some v =>
      refine iteT ?_
      refine ⟨_, rfl, _, W.CE, _, _, _, rfl, R.en, T.clE, T.nHall, ef_hall _, _, _, _, rfl, R.hall, hf_no_take _ _, ?_⟩
      refine tixt (X := (cxOf CX0 P w K mg base ["self", "deed"] "Ends.do" (defScope sDo) N.aDo cdv A outer s H E).nox) 1 rfl ht rfl ?_
      refine tixt (X := (cxOf CX0 P w K mg base ["self", "deed"] "Ends.do" (defScope sDo) N.aDo cdv A outer s H E).nox) 2 rfl ht rfl ?_
      exact ⟨W, S, F, Kn, ext, act, sus, a, key, v, ⟨⟨rfl, rfl, rfl⟩, R, PL, hu0, hK⟩, rfl, hrow, I, ha, hv, fun S' H' R' I' hr' M' => k S' H' R' I' hr' (M'.le (by omega))⟩
    | none =>
      refine iteF ?_
      refine tixt (X := (cxOf CX0 P w K mg base ["self", "deed"] "Ends.do" (defScope sDo) N.aDo cdv A outer s H E).nox) 0 rfl ht rfl ?_
      refine ⟨rfl, _, rfl, ?_⟩
      rw [n_tm]
      refine iteF ?_
      refine tixt (X := (cxOf CX0 P w K mg base ["self", "deed"] "Ends.do" (defScope sDo) N.aDo cdv A outer s H E).nox) 0 rfl ht rfl ?_
      refine ⟨rfl, _, rfl, ?_⟩
      rw [n_ts]
      refine iteF ?_
      exact k S H R I hrow ((Mo.refl S).le (by omega))
  | make a key =>
    obtain ⟨h1, hk6⟩ := hd
    have ha : a ∈ S.there := hth
    refine tixt (X := (cxOf CX0 P w K mg base ["self", "deed"] "Ends.do" (defScope sDo) N.aDo cdv A outer s H E).nox) 0 rfl ht rfl ?_
    refine ⟨rfl, _, rfl, ?_⟩
    rw [n_mh]
    refine iteF ?_
    refine tixt (X := (cxOf CX0 P w K mg base ["self", "deed"] "Ends.do" (defScope sDo) N.aDo cdv A outer s H E).nox) 0 rfl ht rfl ?_
    refine ⟨rfl, _, rfl, ?_⟩
    rw [n_ml]
    refine iteF (iteF ?_)
    refine tixt (X := (cxOf CX0 P w K mg base ["self", "deed"] "Ends.do" (defScope sDo) N.aDo cdv A outer s H E).nox) 0 rfl ht rfl ?_
    refine ⟨rfl, _, rfl, ?_⟩
    rw [n_mp]
    refine iteF ?_
    refine tixt (X := (cxOf CX0 P w K mg base ["self", "deed"] "Ends.do" (defScope sDo) N.aDo cdv A outer s H E).nox) 0 rfl ht rfl ?_
    refine ⟨rfl, _, rfl, ?_⟩
    rw [n_mt]
    refine iteF (iteF ?_)
    refine tixt (X := (cxOf CX0 P w K mg base ["self", "deed"] "Ends.do" (defScope sDo) N.aDo cdv A outer s H E).nox) 0 rfl ht rfl ?_
    refine ⟨rfl, _, rfl, ?_⟩
    rw [n_mm]
    refine iteT ?_
    refine ⟨_, rfl, _, W.CE, _, _, _, rfl, R.en, T.clE, T.nHall, ef_hall _, _, _, _, rfl, R.hall, hf_no_put _ _, ?_⟩
    refine tixt (X := (cxOf CX0 P w K mg base ["self", "deed"] "Ends.do" (defScope sDo) N.aDo cdv A outer s H E).nox) 1 rfl ht rfl ?_
    refine tixt (X := (cxOf CX0 P w K mg base ["self", "deed"] "Ends.do" (defScope sDo) N.aDo cdv A outer s H E).nox) 2 rfl ht rfl ?_
    have ht48 : S.there.length < 1000 := by
      have a1 := I.tlen
      have a2 := I.many_le
      omega
    refine ⟨_, rfl, _, W.CE, _, _, _, rfl, R.en, T.clE, T.nHall, ef_hall _, _, _, _, rfl, R.hall, hf_no_make _ _, W, S, F, "made", ⟨rfl, rfl, rfl⟩, rfl, R, fun n hn => (I.rng hn).2, fun n hn => (I.rng (I.wt n (List.mem_append_right _ hn))).2, ht48, fun p d q H1 hp R1 => ?_⟩
    have M1 : Mo Kn 1 S (S.made p d q "made") := made_mo S p d q "made" I.km
    have hnp : ∀ m, 1 ≤ m → m ≤ S.many → (S.th m).ad ≠ p := fun m a1 a2 e => by
      have z := R.th ⟨a1, a2⟩
      rw [e, hp] at z
      cases z
    have I1 : Inv Kn (S.made p d q "made") ext act sus (S.many + 1) := inv_made I hnp (Nat.le_refl _) (by have := I.km; omega) (.inl rfl) (by rw [unE_made Kn S p d q "made" I.km]; omega)
    have erf : (S.made p d q "made").rf a = S.rf a := by unfold Hs.rf; rw [made_old S p d q "made" (I.rng ha).2]
    have enew : (S.made p d q "made").rf (S.many + 1) = .ref p := by unfold Hs.rf; rw [made_new]
    refine ⟨W, _, F, Kn, ext, act, sus, a, key, .ref p, S.many + 1, ⟨⟨rfl, rfl, rfl⟩, R1, PL.step I.km M1 (Same.refl F), Nat.lt_of_le_of_lt M1.u hu0, hK⟩, ?_, hrow, I1, List.mem_append_left _ ha, h1.2, hk6, .inr ⟨S.many + 1, enew.symm, List.mem_append_right _ List.mem_cons_self, .inr rfl⟩, fun S' H' R' I' hr' M' => k S' H' R' I' hr' (M1.trans M')⟩
    rw [erf]
    rfl

/-! ### the induction: V0 lasts may still be asked -/
theorem no_do {vs : List V} {H : Hp} {Q : VK} {E : XK} : ¬ spDo C CH CE 0 vs H Q E := fun h => by
  obtain ⟨W, S, F, Kn, ext, act, sus, t, d, p, _⟩ := h
  have := p.u
  omega
structure All (P : Program) (w : World) (K : PySem.W.Frag) (mg : Str → Option Value) (base : Heap) {C CH CE : Addr} (N : Fns K C CH CE) (V0 : Nat) : Prop where
  loose : FnOk P w K mg base CX0 (8 * V0 + 11) N.aLoose N.dLoose ["self", "value"] (spLooseB C CH CE (V0 + 1))
  put : FnOk P w K mg base CX0 (8 * V0 + 12) N.aPut N.dPut ["self", "thing", "key", "value"] (spPutB C CH CE (V0 + 1))
  take : FnOk P w K mg base CX0 (8 * V0 + 12) N.aTake N.dTake ["self", "thing", "key"] (spTakeB C CH CE (V0 + 1))
  do_ : FnOk P w K mg base CX0 (8 * V0 + 13) N.aDo N.dDo ["self", "deed"] (spDo C CH CE (V0 + 1))
theorem all_step {V0 : Nat} (T : Txt K mg C CH CE) (N : Fns K C CH CE) (D : FnOk P w K mg base CX0 (8 * V0 + 5) N.aDo N.dDo ["self", "deed"] (spDo C CH CE V0)) : All P w K mg base N V0 := by
  have L := ok_last T N (by omega) D
  have A := ok_ask T N L
  have U := ok_turn T N (by omega) A
  have Wk := ok_work T N U
  have G := ok_letgoB T N Wk
  have Lo := ok_looseB T N G
  have Pu := ok_putB T N Lo
  have Ta := ok_takeB T N Lo
  have Do := ok_do T N (by omega) Pu Ta
  exact ⟨Lo, Pu, Ta, Do⟩
theorem all_ok (T : Txt K mg C CH CE) (N : Fns K C CH CE) : ∀ V0, All P w K mg base N V0
  | 0 => all_step T N (fn_false fun _ _ _ _ => no_do)
  | V0 + 1 => all_step T N (by
      have := (all_ok T N V0).do_
      have e : 8 * V0 + 13 = 8 * (V0 + 1) + 5 := by omega
      rw [← e]
      exact this)
end
end Snk
namespace Snk
open PySem L2
/-! ## I. the hall's other defs -/
theorem natV_sorted {T : List Nat} {ns : List Int} (h : ns.Perm (T.map fun n : Nat => (n : Int))) (hs : ns.Pairwise (· ≤ ·)) : ∃ ms : List Nat, ms.Perm T ∧ ms.Pairwise (· ≤ ·) ∧ ns = ms.map fun n : Nat => (n : Int) := by
  have pos : ∀ z, z ∈ ns → 0 ≤ z := fun z hz => by
    obtain ⟨n, _, rfl⟩ := List.mem_map.mp (h.mem_iff.mp hz)
    exact Int.natCast_nonneg n
  have e : ns = (ns.map Int.toNat).map fun n : Nat => (n : Int) := by
    rw [List.map_map]
    have : ns.map ((fun n : Nat => (n : Int)) ∘ Int.toNat) = ns.map id := List.map_congr_left fun z hz => by
      have := pos z hz
      show ((z.toNat : Nat) : Int) = z
      omega
    rw [this, List.map_id]
  refine ⟨ns.map Int.toNat, ?_, ?_, e⟩
  · have q := h.map Int.toNat
    rw [List.map_map] at q
    have : T.map (Int.toNat ∘ fun n : Nat => (n : Int)) = T.map id := List.map_congr_left fun n _ => by
      show ((n : Int)).toNat = n
      omega
    rw [this, List.map_id] at q
    exact q
  · rw [List.pairwise_map]
    exact hs.imp fun {a b} hab => by omega
theorem natV_map (l : List Nat) : natV l = (l.map fun n : Nat => (n : Int)).map V.int := by
  unfold natV
  rw [List.map_map]
  rfl
section
variable {P : Program} {w : World} {K : PySem.W.Frag} {mg : Str → Option Value} {base : Heap} {C CH CE : Addr}
def spThings (C CH CE : Addr) : Sp := fun vs H Q _ => ∃ (W : Wd) (S : Hs) (F : Hp), IsW W C CH CE ∧ vs = [.ref W.h] ∧ Rep W S F H ∧ S.there.length < 64 ∧
  ∀ (ms : List Nat) p, ms.Perm S.there → ms.Pairwise (· ≤ ·) → H p = none → Q (.ref p) (upd H p (.lst (natV ms)))
theorem scThings : FnScope ["self"] ["self"] (defScope sThings) := ⟨rfl, rfl, rfl, by decide +kernel, rfl, by decide +kernel, by decide +kernel⟩
theorem ok_things {f : Addr} {fd : FuncData} (F : Fun K "things" "Hall.things" sThings f fd) (T : Txt K mg C CH CE) : FnOk P w K mg base CX0 1 f fd ["self"] (spThings C CH CE) := by
  refine F.ok scThings (fun vs H Q E h => ?_) (fun cdv A outer s H vs Q E hr h => ?_)
  · obtain ⟨W, S, F, _, rfl, _⟩ := h
    rfl
  obtain ⟨W, S, F, ⟨rfl, rfl, rfl⟩, rfl, R, hl, k⟩ := h
  refine ⟨_, pss_one (ps_ret (pe_callB (call_sortedDI rfl) (by rfl) T.sorted (by decide +kernel) (pa_cons (pe_fld (pv 0) rfl) pa_nil))), ?_⟩
  refine ⟨_, rfl, _, W.CH, _, _, _, rfl, R.hall, T.clH, T.nThere, hf_there _ _, _, _, S.there.map fun n : Nat => (n : Int), rfl, .inl R.thd, ?_, by rw [List.length_map]; exact hl, fun ys p hp hs hn => ?_⟩
  · unfold thKvs
    rw [List.map_map, List.map_map]
    rfl
  · obtain ⟨ms, h1, h2, rfl⟩ := natV_sorted hp hs
    rw [← natV_map]
    exact k ms p h1 h2 hn
def spGone (C CH CE : Addr) : Sp := fun vs H Q _ => ∃ (W : Wd) (S : Hs) (F : Hp), IsW W C CH CE ∧ vs = [.ref W.h] ∧ Rep W S F H ∧ ∀ p, H p = none → Q (.ref p) (upd H p (.lst (natV S.left)))
theorem scGone : FnScope ["self"] ["self"] (defScope sGone) := ⟨rfl, rfl, rfl, by decide +kernel, rfl, by decide +kernel, by decide +kernel⟩
theorem ok_gone {f : Addr} {fd : FuncData} (F : Fun K "gone" "Hall.gone" sGone f fd) (T : Txt K mg C CH CE) : FnOk P w K mg base CX0 1 f fd ["self"] (spGone C CH CE) := by
  refine F.ok scGone (fun vs H Q E h => ?_) (fun cdv A outer s H vs Q E hr h => ?_)
  · obtain ⟨W, S, F, _, rfl, _⟩ := h
    rfl
  obtain ⟨W, S, F, ⟨rfl, rfl, rfl⟩, rfl, R, k⟩ := h
  refine ⟨_, pss_one (ps_ret (pe_callTy call_list_of (by rfl) T.list (by decide +kernel) (pa_cons (pe_fld (pv 0) rfl) pa_nil))), ?_⟩
  exact ⟨_, rfl, _, W.CH, _, _, _, rfl, R.hall, T.clH, T.nLeft, hf_left _ _, _, _, rfl, .inl (SqL.of R.lf), k⟩
def spAsked (C CH CE : Addr) : Sp := fun vs H Q _ => ∃ (W : Wd) (S : Hs) (F : Hp), IsW W C CH CE ∧ vs = [.ref W.e] ∧ Rep W S F H ∧ ∀ p, H p = none → Q (.ref p) (upd H p (.lst (natV S.nums)))
theorem scAsked : FnScope ["self"] ["self"] (defScope sAsked) := ⟨rfl, rfl, rfl, by decide +kernel, rfl, by decide +kernel, by decide +kernel⟩
theorem ok_asked {f : Addr} {fd : FuncData} (F : Fun K "asked" "Ends.asked" sAsked f fd) (T : Txt K mg C CH CE) : FnOk P w K mg base CX0 1 f fd ["self"] (spAsked C CH CE) := by
  refine F.ok scAsked (fun vs H Q E h => ?_) (fun cdv A outer s H vs Q E hr h => ?_)
  · obtain ⟨W, S, F, _, rfl, _⟩ := h
    rfl
  obtain ⟨W, S, F, ⟨rfl, rfl, rfl⟩, rfl, R, k⟩ := h
  refine ⟨_, pss_one (ps_ret (pe_callTy call_list_of (by rfl) T.list (by decide +kernel) (pa_cons (pe_fld (pv 0) rfl) pa_nil))), ?_⟩
  exact ⟨_, rfl, _, W.CE, _, _, _, rfl, R.en, T.clE, T.nNumbers, ef_numbers _, _, _, rfl, .inl (SqL.of R.nm), k⟩
/-! ### plan -/
def spPlan (C CH CE : Addr) : Sp := fun vs H Q _ => ∃ (W : Wd) (S : Hs) (F : Hp) (n : Nat) (L : Addr) (xs : List V), IsW W C CH CE ∧ vs = [.ref W.e, S.rf n, .ref L] ∧ Rep W S F H ∧ (1 ≤ n ∧ n ≤ S.many) ∧ H L = some (.lst xs) ∧
  (∀ p, p ∈ S.plans → p.1 ≠ n) ∧ S.plans.length < 1000 ∧ ∀ a H', H a = none → Rep W { S with plans := S.plans ++ [(n, a)] } (upd F a (.lst xs)) H' → Q .non H'
theorem scPlan : FnScope ["self", "thing", "deeds"] ["self", "thing", "deeds"] (defScope sPlan) := ⟨rfl, rfl, rfl, by decide +kernel, rfl, by decide +kernel, by decide +kernel⟩
theorem ok_plan {f : Addr} {fd : FuncData} (F : Fun K "plan" "Ends.plan" sPlan f fd) (T : Txt K mg C CH CE) : FnOk P w K mg base CX0 1 f fd ["self", "thing", "deeds"] (spPlan C CH CE) := by
  refine F.ok scPlan (fun vs H Q E h => ?_) (fun cdv A outer s H vs Q E hr h => ?_)
  · obtain ⟨W, S, F, n, L, xs, _, rfl, _⟩ := h
    rfl
  obtain ⟨W, S, F, n, L, xs, ⟨rfl, rfl, rfl⟩, rfl, R, hn, hL, hno, hlen, k⟩ := h
  have hu := hu_of hr
  refine ⟨_, pss_one (ps_dput hu (pe_fld (pv 0) rfl) (pe_fld (pv 1) rfl) (pe_callTy call_list_of (by rfl) T.list (by decide +kernel) (pa_cons (pv 2) pa_nil)) rfl), ?_⟩
  refine ⟨_, rfl, _, _, rfl, .inl (SqL.of hL), fun a ha => ?_⟩
  have R1 := R.fnew ha (.lst xs)
  refine ⟨_, rfl, _, W.CE, _, _, _, rfl, R1.en, T.clE, T.nPlans, ef_plans _, _, rfl, _, W.C, _, _, _, rfl, R1.th hn, T.cl, T.nNumber, tf_number _ _, _, _, rfl, DPut.k (k := Sum.inl (n : Int)) R1.pl ?_, ?_⟩
  · show (S.plans.map _).length < sizeLine
    rw [List.length_map]
    exact small1000 (Nat.le_of_lt hlen)
  · have hnone : valV (plKvs S) (Sum.inl (n : Int)) = none := by
      cases e : valV (plKvs S) (Sum.inl (n : Int)) with
      | none => rfl
      | some v =>
        obtain ⟨a, h1, _⟩ := plKvs_get e
        exact absurd rfl (hno _ h1)
    rw [putK_new _ hnone]
    refine k a _ ha ?_
    have R2 := R1.plw (S.plans ++ [(n, a)])
    rw [List.map_append] at R2
    exact R2
/-! ### Hall.__init__, Ends.__init__, lay -/
def spHall (CH : Addr) : Sp := fun vs H Q _ => ∃ (h hdx e : Addr), vs = [.ref h, .ref e] ∧ H h = some (.ins CH hdx []) ∧
  ∀ (t l : Addr) (H' : Hp), H t = none → H l = none → H' t = some (.dK []) → H' l = some (.lst []) →
    H' h = some (.ins CH hdx [("ender", .ref e), ("many", .int 0), ("there", .ref t), ("left", .ref l), ("row", .non), ("lasts", .int 0)]) → (∀ b o, H b = some o → b ≠ h → H' b = some o) → Q .non H'
theorem scHall : FnScope ["self", "ender"] ["self", "ender"] (defScope sHall) := ⟨rfl, rfl, rfl, by decide +kernel, rfl, by decide +kernel, by decide +kernel⟩
theorem hf_made (e t l : Addr) : putF "lasts" (.int 0) (putF "row" .non (putF "left" (.ref l) (putF "there" (.ref t) (putF "many" (.int 0) (putF "ender" (.ref e) []))))) =
    ([("ender", .ref e), ("many", .int 0), ("there", .ref t), ("left", .ref l), ("row", .non), ("lasts", .int 0)] : List (Str × V)) := by kernel_rfl
theorem ok_hall {f : Addr} {fd : FuncData} (F : Fun K "__init__" "Hall.__init__" sHall f fd) (T : Txt K mg C CH CE) : FnOk P w K mg base CX0 1 f fd ["self", "ender"] (spHall CH) := by
  refine F.ok scHall (fun vs H Q E h => ?_) (fun cdv A outer s H vs Q E hr h => ?_)
  · obtain ⟨h, hdx, e, rfl, _⟩ := h
    rfl
  obtain ⟨p, dx, e, rfl, hp, k⟩ := h
  refine ⟨_, pss_cons (ps_fld (pv 0) (pv 1) rfl) (pss_cons (ps_fld (pv 0) pe_int rfl) (pss_cons (ps_fld (pv 0) pe_dnewK rfl) (pss_cons (ps_fld (pv 0) (pe_lst pa_nil) rfl)
    (pss_cons (ps_fld (pv 0) pe_non rfl) (pss_one (ps_fld (pv 0) pe_int rfl)))))), ?_⟩
  refine ⟨_, rfl, _, rfl, p, CH, dx, [], rfl, hp, T.clH, T.nEnder, (by show 0 < 1000; decide), ?_⟩
  have l1 : (putF "ender" (.ref e) []).length ≤ 1 := len_put _ _ _
  refine ⟨_, rfl, p, CH, dx, _, rfl, upd_same, T.clH, T.nMany, (by omega), ?_⟩
  have l2 := len_put "many" (.int 0) (putF "ender" (.ref e) [])
  intro t ht
  have npt : p ≠ t := ne_of_none upd_same ht
  refine ⟨_, rfl, p, CH, dx, _, rfl, (by rw [upd_ne npt]; exact upd_same), T.clH, T.nThere, (by omega), ?_⟩
  have l3 := len_put "there" (.ref t) (putF "many" (.int 0) (putF "ender" (.ref e) []))
  refine ⟨Nat.zero_le _, fun l hl => ?_⟩
  have npl : p ≠ l := ne_of_none upd_same hl
  have ntl : t ≠ l := fun z => by rw [← z, upd_ne npt.symm, upd_same] at hl; cases hl
  refine ⟨_, rfl, p, CH, dx, _, rfl, (by rw [upd_ne npl]; exact upd_same), T.clH, T.nLeft, (by omega), ?_⟩
  have l4 := len_put "left" (.ref l) (putF "there" (.ref t) (putF "many" (.int 0) (putF "ender" (.ref e) [])))
  refine ⟨_, rfl, p, CH, dx, _, rfl, upd_same, T.clH, T.nRow, (by omega), ?_⟩
  have l5 := len_put "row" .non (putF "left" (.ref l) (putF "there" (.ref t) (putF "many" (.int 0) (putF "ender" (.ref e) []))))
  refine ⟨_, rfl, p, CH, dx, _, rfl, upd_same, T.clH, T.nLasts, (by omega), ?_⟩
  have ht0 : H t = none := by
    rw [upd_ne npt.symm, upd_ne npt.symm] at ht
    exact ht
  have hl0 : H l = none := by
    rw [upd_ne npl.symm, upd_ne ntl.symm, upd_ne npl.symm, upd_ne npl.symm] at hl
    exact hl
  refine k t l _ ht0 hl0 ?_ ?_ ?_ fun b o hb hne => ?_
  · rw [upd_ne npt.symm, upd_ne npt.symm, upd_ne npt.symm, upd_ne ntl, upd_ne npt.symm, upd_same]
  · rw [upd_ne npl.symm, upd_ne npl.symm, upd_ne npl.symm, upd_same]
  · rw [upd_same, hf_made]
  · rw [upd_ne hne, upd_ne hne, upd_ne hne, upd_ne (ne_of_none hb hl0), upd_ne hne, upd_ne (ne_of_none hb ht0), upd_ne hne, upd_ne hne]
    exact hb
def ef0 (x : V) (p n o : Addr) : List (Str × V) := [("hall", x), ("plans", .ref p), ("numbers", .ref n), ("holds", .ref o)]
def spEnds (CE : Addr) : Sp := fun vs H Q _ => ∃ (e edx : Addr), vs = [.ref e] ∧ H e = some (.ins CE edx []) ∧
  ∀ (p n o : Addr) (H' : Hp), H p = none → H n = none → H o = none → n ≠ o → H' p = some (.dK []) → H' n = some (.lst []) → H' o = some (.lst []) →
    H' e = some (.ins CE edx (ef0 .non p n o)) → (∀ b u, H b = some u → b ≠ e → H' b = some u) → Q .non H'
theorem scEnds : FnScope ["self"] ["self"] (defScope sEnds) := ⟨rfl, rfl, rfl, by decide +kernel, rfl, by decide +kernel, by decide +kernel⟩
theorem ef_made (p n o : Addr) : putF "holds" (.ref o) (putF "numbers" (.ref n) (putF "plans" (.ref p) (putF "hall" .non []))) = ef0 .non p n o := by kernel_rfl
theorem ok_ends {f : Addr} {fd : FuncData} (F : Fun K "__init__" "Ends.__init__" sEnds f fd) (T : Txt K mg C CH CE) : FnOk P w K mg base CX0 1 f fd ["self"] (spEnds CE) := by
  refine F.ok scEnds (fun vs H Q E h => ?_) (fun cdv A outer s H vs Q E hr h => ?_)
  · obtain ⟨e, edx, rfl, _⟩ := h
    rfl
  obtain ⟨e, dx, rfl, he, k⟩ := h
  refine ⟨_, pss_cons (ps_fld (pv 0) pe_non rfl) (pss_cons (ps_fld (pv 0) pe_dnewK rfl) (pss_cons (ps_fld (pv 0) (pe_lst pa_nil) rfl) (pss_one (ps_fld (pv 0) (pe_lst pa_nil) rfl)))), ?_⟩
  refine ⟨_, rfl, e, CE, dx, [], rfl, he, T.clE, T.nHall, (by show 0 < 1000; decide), ?_⟩
  have l1 : (putF "hall" .non []).length ≤ 1 := len_put _ _ _
  intro p hp
  have nep : e ≠ p := ne_of_none upd_same hp
  refine ⟨_, rfl, e, CE, dx, _, rfl, (by rw [upd_ne nep]; exact upd_same), T.clE, T.nPlans, (by omega), ?_⟩
  have l2 := len_put "plans" (.ref p) (putF "hall" .non [])
  refine ⟨Nat.zero_le _, fun n hn => ?_⟩
  have nen : e ≠ n := ne_of_none upd_same hn
  have npn : p ≠ n := fun z => by rw [← z, upd_ne nep.symm, upd_same] at hn; cases hn
  refine ⟨_, rfl, e, CE, dx, _, rfl, (by rw [upd_ne nen]; exact upd_same), T.clE, T.nNumbers, (by omega), ?_⟩
  have l3 := len_put "numbers" (.ref n) (putF "plans" (.ref p) (putF "hall" .non []))
  refine ⟨Nat.zero_le _, fun o ho => ?_⟩
  have neo : e ≠ o := ne_of_none upd_same ho
  have nno : n ≠ o := fun z => by rw [← z, upd_ne nen.symm, upd_same] at ho; cases ho
  have npo : p ≠ o := fun z => by rw [← z, upd_ne nep.symm, upd_ne npn, upd_ne nep.symm, upd_same] at ho; cases ho
  refine ⟨_, rfl, e, CE, dx, _, rfl, (by rw [upd_ne neo]; exact upd_same), T.clE, T.nHolds, (by omega), ?_⟩
  have hp0 : H p = none := by
    rw [upd_ne nep.symm] at hp
    exact hp
  have hn0 : H n = none := by
    rw [upd_ne nen.symm, upd_ne npn.symm, upd_ne nen.symm] at hn
    exact hn
  have ho0 : H o = none := by
    rw [upd_ne neo.symm, upd_ne nno.symm, upd_ne neo.symm, upd_ne npo.symm, upd_ne neo.symm] at ho
    exact ho
  refine k p n o _ hp0 hn0 ho0 nno ?_ ?_ ?_ ?_ fun b u hb hne => ?_
  · rw [upd_ne nep.symm, upd_ne npo, upd_ne nep.symm, upd_ne npn, upd_ne nep.symm, upd_same]
  · rw [upd_ne nen.symm, upd_ne nno, upd_ne nen.symm, upd_same]
  · rw [upd_ne neo.symm, upd_same]
  · rw [upd_same, ef_made]
  · rw [upd_ne hne, upd_ne (ne_of_none hb ho0), upd_ne hne, upd_ne (ne_of_none hb hn0), upd_ne hne, upd_ne (ne_of_none hb hp0), upd_ne hne]
    exact hb
def spLay (CE : Addr) : Sp := fun vs H Q _ => ∃ (e edx h p n o : Addr), vs = [.ref e, .ref h] ∧ H e = some (.ins CE edx (ef0 .non p n o)) ∧ Q .non (upd H e (.ins CE edx (ef0 (.ref h) p n o)))
theorem scLay : FnScope ["self", "hall"] ["self", "hall"] (defScope sLay) := ⟨rfl, rfl, rfl, by decide +kernel, rfl, by decide +kernel, by decide +kernel⟩
theorem ef_lay (h p n o : Addr) : putF "hall" (.ref h) (ef0 .non p n o) = ef0 (.ref h) p n o := by kernel_rfl
theorem ok_lay {f : Addr} {fd : FuncData} (F : Fun K "lay" "Ends.lay" sLay f fd) (T : Txt K mg C CH CE) : FnOk P w K mg base CX0 1 f fd ["self", "hall"] (spLay CE) := by
  refine F.ok scLay (fun vs H Q E h => ?_) (fun cdv A outer s H vs Q E hr h => ?_)
  · obtain ⟨e, edx, h, p, n, o, rfl, _⟩ := h
    rfl
  obtain ⟨e, edx, h, p, n, o, rfl, he, k⟩ := h
  refine ⟨_, pss_one (ps_fld (pv 0) (pv 1) rfl), ?_⟩
  refine ⟨_, rfl, _, rfl, e, CE, edx, _, rfl, he, T.clE, T.nHall, (by show 4 < 1000; decide), ?_⟩
  rw [ef_lay]
  exact k
end
/-- the empty hall -/
def Hs0 : Hs := ⟨0, fun _ => ⟨0, 0, 0, "", 0, [], false, false⟩, [], [], none, 0, [], []⟩
theorem inv0 : Inv 0 Hs0 [] [] [] 0 := by
  refine ⟨List.nodup_nil, fun n => ?_, (fun _ hn => nomatch hn), (fun _ hn => nomatch hn), (fun _ hn => nomatch hn), (fun _ hn => nomatch hn), (fun _ hn => nomatch hn), List.nodup_nil, (fun _ hn => nomatch hn), (fun _ hn => nomatch hn), (fun _ hn => nomatch hn), fun n => ?_, List.nodup_nil,
    (fun _ hn => nomatch hn), (fun _ hn => nomatch hn), (fun _ _ _ => rfl), (fun _ hn => nomatch hn), Nat.le_refl _, Nat.le_refl _, fun n m h1 h2 => ?_⟩
  · constructor
    · intro z; cases z
    · rintro ⟨a, b⟩
      have b : n ≤ 0 := b
      omega
  · constructor
    · intro z; cases z
    · rintro ⟨a, b, _⟩
      have b : n ≤ 0 := b
      omega
  · have h2 : n ≤ 0 := h2
    omega
theorem rep0 {W : Wd} {H : Hp} (h1 : H W.h = some (.ins W.CH W.hdx (hf W Hs0))) (h2 : H W.thA = some (.dK [])) (h3 : H W.lfA = some (.lst [])) (h4 : H W.e = some (.ins W.CE W.edx (ef W))) (h5 : H W.plA = some (.dK [])) (h6 : H W.nmA = some (.lst [])) (h7 : H W.hoA = some (.lst []))
    (d1 : W.h ≠ W.e) (d2 : W.thA ≠ W.plA) (d3 : W.lfA ≠ W.nmA) (d4 : W.lfA ≠ W.hoA) (d5 : W.nmA ≠ W.hoA) : Rep W Hs0 (fun _ => none) H := by
  have e12 : W.h ≠ W.thA := ne_of h1 h2 (by intro z; cases z)
  have e13 : W.h ≠ W.lfA := ne_of h1 h3 (by intro z; cases z)
  have e15 : W.h ≠ W.plA := ne_of h1 h5 (by intro z; cases z)
  have e16 : W.h ≠ W.nmA := ne_of h1 h6 (by intro z; cases z)
  have e17 : W.h ≠ W.hoA := ne_of h1 h7 (by intro z; cases z)
  have e23 : W.thA ≠ W.lfA := ne_of h2 h3 (by intro z; cases z)
  have e24 : W.thA ≠ W.e := ne_of h2 h4 (by intro z; cases z)
  have e26 : W.thA ≠ W.nmA := ne_of h2 h6 (by intro z; cases z)
  have e27 : W.thA ≠ W.hoA := ne_of h2 h7 (by intro z; cases z)
  have e34 : W.lfA ≠ W.e := ne_of h3 h4 (by intro z; cases z)
  have e35 : W.lfA ≠ W.plA := ne_of h3 h5 (by intro z; cases z)
  have e45 : W.e ≠ W.plA := ne_of h4 h5 (by intro z; cases z)
  have e46 : W.e ≠ W.nmA := ne_of h4 h6 (by intro z; cases z)
  have e47 : W.e ≠ W.hoA := ne_of h4 h7 (by intro z; cases z)
  have e56 : W.plA ≠ W.nmA := ne_of h5 h6 (by intro z; cases z)
  have e57 : W.plA ≠ W.hoA := ne_of h5 h7 (by intro z; cases z)
  have noth : ∀ n, adr W Hs0 (.th n) = none := fun n => if_neg fun z => by
    have : n ≤ 0 := z.2
    omega
  have nopd : ∀ n, adr W Hs0 (.pd n) = none := fun n => if_neg fun z => by
    have : n ≤ 0 := z.2
    omega
  refine ⟨fun r a h => ?_, fun p q a hp hq => ?_, fun b o h => (nomatch h), fun b o r h => (nomatch h)⟩
  · cases r with
    | th n => rw [noth] at h; cases h
    | pd n => rw [nopd] at h; cases h
    | row => cases h
    | hall => rw [← Option.some.inj h]; exact h1
    | thd => rw [← Option.some.inj h]; exact h2
    | lf => rw [← Option.some.inj h]; exact h3
    | en => rw [← Option.some.inj h]; exact h4
    | pl => rw [← Option.some.inj h]; exact h5
    | nm => rw [← Option.some.inj h]; exact h6
    | ho => rw [← Option.some.inj h]; exact h7
  · cases p <;> cases q <;> first
      | rfl
      | (rw [noth] at hp; cases hp)
      | (rw [noth] at hq; cases hq)
      | (rw [nopd] at hp; cases hp)
      | (rw [nopd] at hq; cases hq)
      | cases hp; done
      | cases hq; done
      | (exfalso; have z := Option.some.inj (hp.trans hq.symm); first | exact absurd z (by assumption) | exact absurd z.symm (by assumption))
end Snk
namespace Snk
open PySem L2
/-! ## J. the law's draws -/
abbrev lMixed : Stmt := top 6
abbrev lWell : Stmt := top 7
abbrev lDig : Stmt := top 8
abbrev lPlan : Stmt := top 9
abbrev lOf : Stmt := top 10
abbrev lThing : Stmt := top 11
abbrev lKnown : Stmt := top 12
abbrev lCounted : Stmt := top 13
abbrev lKey : Stmt := top 14
abbrev lStep : Stmt := top 15
abbrev lStands : Stmt := top 16
abbrev lLaw : Stmt := top 17
def WellL (ce : Addr) (w : List V) : Prop := ∃ (b : Bool) (c x nx : Int), w = [.bl b, .int c, .int x, .int nx, .ref ce] ∧ 0 ≤ x ∧ 0 ≤ nx
/-- the well at wl, its cells at ce -/
def WellAt (H : Hp) (wl ce : Addr) : Prop := ∃ (w : List V) (cs : List Int), H wl = some (.lst w) ∧ WellL ce w ∧ H ce = some (.lst (cs.map V.int)) ∧ cs ≠ [] ∧ cs.length ≤ 1000
theorem WellAt.ne {H : Hp} {wl ce : Addr} (h : WellAt H wl ce) : wl ≠ ce := by
  obtain ⟨w, cs, h1, ⟨b, c, x, nx, rfl, _⟩, h3, h4, _⟩ := h
  refine ne_of h1 h3 fun z => ?_
  cases cs with
  | nil => exact h4 rfl
  | cons a r =>
    injection z with z
    injection z with z _
    cases z
theorem WellAt.same {H H' : Hp} {wl ce : Addr} (h : WellAt H wl ce) (k : Same H H') : WellAt H' wl ce := by
  obtain ⟨w, cs, h1, h2, h3, h4⟩ := h
  exact ⟨w, cs, k _ _ h1, h2, k _ _ h3, h4⟩
theorem WellAt.upd {H : Hp} {wl ce : Addr} (h : WellAt H wl ce) {w : List V} (hw : WellL ce w) : WellAt (upd H wl (.lst w)) wl ce := by
  have ne := h.ne
  obtain ⟨_, cs, h1, h2, h3, h4⟩ := h
  exact ⟨w, cs, upd_same, hw, by rw [upd_ne ne.symm]; exact h3, h4⟩
theorem WellAt.some {H : Hp} {wl ce : Addr} (h : WellAt H wl ce) : ∃ o, H wl = some o := by
  obtain ⟨w, cs, h1, _⟩ := h
  exact ⟨_, h1⟩
section
variable {P : Program} {w : World} {K : PySem.W.Frag} {mg : Str → Option Value} {base : Heap}
/-! ### mixed -/
def spMixed : Sp := fun vs H Q _ => ∃ (a k : Int), vs = [.int a, .int k] ∧ ∀ z : Int, Q (.int z) H
theorem scMixed : FnScope ["_law_number", "_law_k", "_law_once", "_law_twice"] ["_law_number", "_law_k"] (defScope lMixed) := ⟨rfl, rfl, rfl, by decide +kernel, rfl, by decide +kernel, by decide +kernel⟩
theorem small_mod (a : Int) {m : Int} (h : 0 < m) (h2 : m ≤ 2147483647) : -(2 ^ 64) < a % m ∧ a % m < 2 ^ 64 := by
  have a1 := Int.emod_nonneg a (by omega : m ≠ 0)
  have a2 := Int.emod_lt_of_pos a h
  have e : (2 : Int) ^ 64 = 18446744073709551616 := by decide
  omega
theorem ok_mixed {f : Addr} {fd : FuncData} (F : Fun K "_law_mixed" "_law_mixed" lMixed f fd) : FnOk P w K mg base CX0 1 f fd ["_law_number", "_law_k"] spMixed := by
  refine F.ok scMixed (fun vs H Q E h => ?_) (fun cdv A outer s H vs Q E hr h => ?_)
  · obtain ⟨a, k, rfl, _⟩ := h
    rfl
  obtain ⟨a, k, rfl, q⟩ := h
  refine ⟨_, pss_cons (ps_set (i := 2) scMixed.nd rfl (Or.inl rfl) (pe_op op_mod (pe_op op_mul (pe_op op_add (pe_op op_add (pe_op op_mod (pv 0) pe_int) (pe_op op_mul pe_int (pv 1))) pe_int) pe_int) pe_int))
    (pss_cons (ps_set (i := 3) scMixed.nd rfl (Or.inl rfl) (pe_op op_mod (pe_op op_mul (pv 2) (pe_op op_add (pe_op op_add (pe_op op_mod (pv 2) pe_int) (pv 1)) pe_int)) pe_int))
    (pss_one (ps_ret (pe_op op_mod (pe_op op_add (pe_op op_mul (pv 3) pe_int) (pv 2)) pe_int)))), ?_⟩
  refine ⟨_, rfl, _, _, rfl, rfl, (by show (0 : Int) < 1000000007; decide), _, rfl, _, _, rfl, rfl, .inl ⟨by decide, by decide⟩, _, _, rfl, rfl, _, _, rfl, rfl, _, _, rfl, rfl, .inr ⟨by decide, by decide⟩, _, _, rfl, rfl, (by show (0 : Int) < 2147483647; decide), ?_⟩
  refine ⟨_, rfl, _, rfl, _, _, rfl, rfl, (by show (0 : Int) < 1009; decide), _, rfl, _, _, rfl, rfl, _, _, rfl, rfl, _, _, rfl, rfl, .inl (small_mod _ (by decide) (by decide)), _, _, rfl, rfl, (by show (0 : Int) < 998244353; decide), ?_⟩
  refine ⟨_, rfl, _, _, rfl, rfl, .inr ⟨by decide, by decide⟩, _, rfl, _, _, rfl, rfl, _, _, rfl, rfl, (by show (0 : Int) < 2147483629; decide), ?_⟩
  exact q _
/-! ### dig -/
def spDig : Sp := fun vs H Q _ => ∃ (wl ce : Addr) (m : Int), vs = [.ref wl, .int m] ∧ WellAt H wl ce ∧ 0 < m ∧ m < 1000000 ∧ ∀ (v : Int) (w' : List V), 0 ≤ v → v < m → WellL ce w' → Q (.int v) (upd H wl (.lst w'))
theorem scDig : FnScope ["_law_well_here", "_law_most", "_law_number"] ["_law_well_here", "_law_most"] (defScope lDig) := ⟨rfl, rfl, rfl, by decide +kernel, rfl, by decide +kernel, by decide +kernel⟩
theorem cell_at {cs : List Int} {i : Int} (h0 : 0 ≤ i) (h1 : i < (cs.length : Int)) : ∃ z : Int, atI (cs.map V.int) i = some (.int z) := by
  have hlt : i.toNat < cs.length := by omega
  refine ⟨cs[i.toNat], at_of (j := i.toNat) (by omega) ?_⟩
  rw [List.getElem?_map, List.getElem?_eq_getElem hlt]
  rfl
theorem ok_dig {f g : Addr} {fd gd : FuncData} (F : Fun K "_law_dig" "_law_dig" lDig f fd) (FM : Fun K "_law_mixed" "_law_mixed" lMixed g gd) (bM : Binds K gd ["_law_number", "_law_k"] []) (mM : mg "_law_mixed" = some (.ref g)) (ml : mg "len" = none) (ma : mg "abs" = none) :
    FnOk P w K mg base CX0 2 f fd ["_law_well_here", "_law_most"] spDig := by
  have GM : FnOk P w K mg base CX0 1 g gd ["_law_number", "_law_k"] spMixed := ok_mixed FM
  refine F.ok scDig (fun vs H Q E h => ?_) (fun cdv A outer s H vs Q E hr h => ?_)
  · obtain ⟨wl, ce, m, rfl, _⟩ := h
    rfl
  obtain ⟨wl, ce, m, rfl, hW, hm0, hm1, k⟩ := h
  have ne := hW.ne
  obtain ⟨_, cs, h1, ⟨b, c, x, nx, rfl, hx, hnx⟩, h3, h4, h5⟩ := hW
  have hlen : 0 < cs.length := List.length_pos_iff.mpr h4
  refine ⟨_, pss_cons (ps_asg (pe_op op_add (pe_ix ix_list (pv 0) pe_int (fun _ _ => rfl)) pe_int) (pg_sub (pv 0) pe_int set_list))
    (pss_cons (ps_if (pt_val (pe_ix ix_list (pv 0) pe_int (fun _ _ => rfl)))
      (pss_one (ps_ret (pe_op op_mod (pe_call GM hr rfl mM FM.kp bM .nil pass0 (pa_cons (pe_ix ix_list (pe_ix ix_list (pv 0) pe_int (fun _ _ => rfl)) (pe_op op_mod (pe_ix ix_list (pv 0) pe_int (fun _ _ => rfl)) (pe_callB call_len_seq (by rfl) ml PySem.boot_len (pa_cons (pe_ix ix_list (pv 0) pe_int (fun _ _ => rfl)) pa_nil))) (fun _ _ => rfl))
        (pa_cons (pe_ix ix_list (pv 0) pe_int (fun _ _ => rfl)) pa_nil))) (pv 1)))) pss_nil)
    (pss_cons (ps_set (i := 2) scDig.nd rfl (Or.inl rfl) (pe_op op_mod (pe_ix ix_list (pv 0) pe_int (fun _ _ => rfl)) (pv 1)))
    (pss_cons (ps_asg (pe_op op_fdiv (pe_ix ix_list (pv 0) pe_int (fun _ _ => rfl)) (pv 1)) (pg_sub (pv 0) pe_int set_list))
    (pss_cons (ps_if (PW.pt (pw_and (pt_cmpR op_eq (pe_ix ix_list (pv 0) pe_int (fun _ _ => rfl)) pe_int (nomark _)) (pw_and1 (pt_cmpR op_lt (pe_ix ix_list (pv 0) pe_int (fun _ _ => rfl)) (pe_callB call_len_seq (by rfl) ml PySem.boot_len (pa_cons (pe_ix ix_list (pv 0) pe_int (fun _ _ => rfl)) pa_nil)) (nomark _)))))
      (pss_cons (ps_asg (pe_callB call_abs (by rfl) ma (by decide +kernel) (pa_cons (pe_ix ix_list (pe_ix ix_list (pv 0) pe_int (fun _ _ => rfl)) (pe_ix ix_list (pv 0) pe_int (fun _ _ => rfl)) (fun _ _ => rfl)) pa_nil)) (pg_sub (pv 0) pe_int set_list))
        (pss_one (ps_asg (pe_op op_add (pe_ix ix_list (pv 0) pe_int (fun _ _ => rfl)) pe_int) (pg_sub (pv 0) pe_int set_list)))) pss_nil)
    (pss_one (ps_ret (pv 2))))))), ?_⟩
  -- well[1] = well[1] + 1
  refine ⟨_, rfl, wl, _, _, _, rfl, rfl, SqL.of h1, at_of (j := 1) rfl rfl, _, _, rfl, rfl, _, rfl, wl, _, _, 1, rfl, rfl, h1, (by show ixN 5 1 = some 1; decide), ?_⟩
  have h1' : (upd H wl (.lst [.bl b, .int (c + 1), .int x, .int nx, .ref ce])) wl = some (.lst [.bl b, .int (c + 1), .int x, .int nx, .ref ce]) := upd_same
  have h3' : (upd H wl (.lst [.bl b, .int (c + 1), .int x, .int nx, .ref ce])) ce = some (.lst (cs.map V.int)) := by rw [upd_ne ne.symm]; exact h3
  refine ⟨_, rfl, wl, _, _, _, rfl, rfl, SqL.of h1', at_of (j := 0) rfl rfl, _, rfl, ?_⟩
  cases b with
  | true =>
    refine iteT ?_
    have hq : 0 ≤ (c + 1) % (cs.length : Int) ∧ (c + 1) % (cs.length : Int) < (cs.length : Int) := ⟨Int.emod_nonneg _ (by omega), Int.emod_lt_of_pos _ (by omega)⟩
    obtain ⟨z, hz⟩ := cell_at hq.1 hq.2
    refine ⟨_, rfl, wl, _, _, _, rfl, rfl, SqL.of h1', at_of (j := 4) rfl rfl, _, rfl, wl, _, _, _, rfl, rfl, SqL.of h1', at_of (j := 1) rfl rfl, _, rfl, wl, _, _, _, rfl, rfl, SqL.of h1', at_of (j := 4) rfl rfl, ce, _, rfl, .inl (SqL.of h3'), _, _, rfl, rfl, ?_, ce, _, _, _, rfl, rfl, SqL.of h3', ?_, _, rfl, wl, _, _, _, rfl, rfl, SqL.of h1', at_of (j := 1) rfl rfl, z, _, rfl, fun y => ?_⟩
    · rw [List.length_map]; omega
    · rw [List.length_map]; exact hz
    · refine ⟨_, rfl, _, _, rfl, rfl, hm0, ?_⟩
      exact k _ _ (Int.emod_nonneg _ (by omega)) (Int.emod_lt_of_pos _ hm0) ⟨true, c + 1, x, nx, rfl, hx, hnx⟩
  | false =>
    refine iteF ?_
    refine ⟨_, rfl, wl, _, _, _, rfl, rfl, SqL.of h1', at_of (j := 2) rfl rfl, _, rfl, _, _, rfl, rfl, hm0, ?_⟩
    refine ⟨_, rfl, wl, _, _, _, rfl, rfl, SqL.of h1', at_of (j := 2) rfl rfl, _, rfl, _, _, rfl, rfl, ⟨hm0, by omega⟩, _, rfl, wl, _, _, 2, rfl, rfl, h1', (by show ixN 5 2 = some 2; decide), ?_⟩
    rw [upd_upd]
    have h2' : (upd H wl (.lst [.bl false, .int (c + 1), .int (x / m), .int nx, .ref ce])) wl = some (.lst [.bl false, .int (c + 1), .int (x / m), .int nx, .ref ce]) := upd_same
    have h4' : (upd H wl (.lst [.bl false, .int (c + 1), .int (x / m), .int nx, .ref ce])) ce = some (.lst (cs.map V.int)) := by rw [upd_ne ne.symm]; exact h3
    have hdiv : 0 ≤ x / m := Int.ediv_nonneg hx (by omega)
    have fin : ∀ w', WellL ce w' → Q (.int (x % m)) (upd H wl (.lst w')) := fun w' hw' => k _ w' (Int.emod_nonneg _ (by omega)) (Int.emod_lt_of_pos _ hm0) hw'
    refine ⟨_, rfl, wl, _, _, _, rfl, rfl, SqL.of h2', at_of (j := 2) rfl rfl, rfl, _, rfl, ?_⟩
    refine ite2 (fun _ => ?_) (fun _ => ?_)
    · refine ⟨_, rfl, wl, _, _, _, rfl, rfl, SqL.of h2', at_of (j := 3) rfl rfl, _, rfl, wl, _, _, _, rfl, rfl, SqL.of h2', at_of (j := 4) rfl rfl, ce, _, rfl, .inl (SqL.of h4'), _, _, rfl, rfl, _, rfl, ?_⟩
      refine ite2 (fun hlt => ?_) (fun _ => ?_)
      · have hlt' : nx < (((cs.map V.int).length : Nat) : Int) := of_decide_eq_true hlt
        rw [List.length_map] at hlt'
        obtain ⟨z, hz⟩ := cell_at hnx hlt'
        refine ⟨_, rfl, wl, _, _, _, rfl, rfl, SqL.of h2', at_of (j := 4) rfl rfl, _, rfl, wl, _, _, _, rfl, rfl, SqL.of h2', at_of (j := 3) rfl rfl, ce, _, _, _, rfl, rfl, SqL.of h4', hz, _, rfl, _, rfl, wl, _, _, 2, rfl, rfl, h2', (by show ixN 5 2 = some 2; decide), ?_⟩
        rw [upd_upd]
        have h5' : (upd H wl (.lst [.bl false, .int (c + 1), .int (if z < 0 then -z else z), .int nx, .ref ce])) wl = some (.lst [.bl false, .int (c + 1), .int (if z < 0 then -z else z), .int nx, .ref ce]) := upd_same
        refine ⟨_, rfl, wl, _, _, _, rfl, rfl, SqL.of h5', at_of (j := 3) rfl rfl, _, _, rfl, rfl, _, rfl, wl, _, _, 3, rfl, rfl, h5', (by show ixN 5 3 = some 3; decide), ?_⟩
        rw [upd_upd]
        refine ⟨_, rfl, ?_⟩
        exact fin _ ⟨false, c + 1, _, nx + 1, rfl, by split <;> omega, by omega⟩
      · refine ⟨_, rfl, ?_⟩
        exact fin _ ⟨false, c + 1, _, nx, rfl, hdiv, hnx⟩
    · refine iteF ?_
      refine ⟨_, rfl, ?_⟩
      exact fin _ ⟨false, c + 1, _, nx, rfl, hdiv, hnx⟩
/-! ### well -/
def spWell (K : PySem.W.Frag) : Sp := fun vs H Q _ => ∃ (a : Addr) (ns : List Int), vs = [.ref a, .int 0] ∧ SqL K H a (ns.map V.int) ∧ ns.length ≤ 63 ∧ ∀ (wl ce : Addr) (H' : Hp), Same H H' → H wl = none → H ce = none → WellAt H' wl ce → Q (.ref wl) H'
theorem scWell : FnScope ["_law_script", "_law_first", "_law_cells"] ["_law_script", "_law_first"] (defScope lWell) := ⟨rfl, rfl, rfl, by decide +kernel, rfl, by decide +kernel, by decide +kernel⟩
theorem cut_all (xs : List V) : cutV xs (some 0) none = xs := by
  unfold cutV
  have e1 : HT.sIx xs.length 0 (some 0) = 0 := by simp [HT.sIx]
  have e2 : HT.sIx xs.length xs.length none = xs.length := by simp [HT.sIx]
  rw [e1, e2, List.drop_zero, Nat.sub_zero, List.take_length]
theorem ok_well {f : Addr} {fd : FuncData} (F : Fun K "_law_well" "_law_well" lWell f fd) (ma : mg "abs" = none) : FnOk P w K mg base CX0 1 f fd ["_law_script", "_law_first"] (spWell K) := by
  refine F.ok scWell (fun vs H Q E h => ?_) (fun cdv A outer s H vs Q E hr h => ?_)
  · obtain ⟨a, ns, rfl, _⟩ := h
    rfl
  obtain ⟨a, ns, rfl, hS, hl, k⟩ := h
  refine ⟨_, pss_cons (ps_set (i := 2) scWell.nd rfl (Or.inl rfl) (pe_op op_cat (pe_slice sl_list (pv 0) (po_some (pv 1)) po_none) (pe_lst (pa_cons pe_int pa_nil))))
    (pss_one (ps_ret (pe_lst (pa_cons (pe_cmpR op_lt (pe_callB call_abs (by rfl) ma (by decide +kernel) (pa_cons (pe_ix ix_list (pv 2) pe_int (fun _ _ => rfl)) pa_nil)) (pe_op op_pow pe_int pe_int) (nomark _))
      (pa_cons pe_int (pa_cons (pe_callB call_abs (by rfl) ma (by decide +kernel) (pa_cons (pe_ix ix_list (pv 2) pe_int (fun _ _ => rfl)) pa_nil)) (pa_cons pe_int (pa_cons (pv 2) pa_nil)))))))), ?_⟩
  refine ⟨_, rfl, _, rfl, 0, rfl, a, _, rfl, hS, fun p hp => ?_⟩
  rw [cut_all]
  refine ⟨(by show 1 ≤ sizeLine; decide), fun q hq => ?_⟩
  have npq : p ≠ q := ne_of_none upd_same hq
  refine ⟨p, q, _, _, rfl, rfl, by rw [upd_ne npq, upd_same], upd_same, ?_, fun ce hce => ?_⟩
  · rw [List.length_map, List.length_singleton]
    exact Nat.le_trans (Nat.succ_le_succ hl) (by decide)
  have hlist : (ns.map V.int ++ [V.int 0]) = (ns ++ [0]).map V.int := by rw [List.map_append]; rfl
  rw [hlist]
  have npc : p ≠ ce := fun z => by rw [← z, upd_ne npq, upd_same] at hce; cases hce
  have nqc : q ≠ ce := fun z => by rw [← z, upd_same] at hce; cases hce
  obtain ⟨z, hz⟩ : ∃ z : Int, atI ((ns ++ [0]).map V.int) 0 = some (.int z) := cell_at (by decide) (by rw [List.length_append, List.length_singleton]; omega)
  refine ⟨_, rfl, ce, _, _, _, rfl, rfl, SqL.of upd_same, hz, _, rfl, _, _, rfl, rfl, ⟨by decide, by decide, by decide⟩, _, _, rfl, rfl, ?_⟩
  refine ⟨_, rfl, ce, _, _, _, rfl, rfl, SqL.of upd_same, hz, _, rfl, _, rfl, (by show 5 ≤ sizeLine; decide), fun wl hwl => ?_⟩
  have ncw : ce ≠ wl := ne_of_none upd_same hwl
  have hp0 : H p = none := hp
  have hq0 : H q = none := by
    rw [upd_ne npq.symm] at hq
    exact hq
  have hc0 : H ce = none := by
    rw [upd_ne nqc.symm, upd_ne npc.symm] at hce
    exact hce
  have npw : p ≠ wl := fun z => by rw [← z, upd_ne npc, upd_ne npq, upd_same] at hwl; cases hwl
  have nqw : q ≠ wl := fun z => by rw [← z, upd_ne nqc, upd_same] at hwl; cases hwl
  have hw0 : H wl = none := by
    rw [upd_ne ncw.symm, upd_ne nqw.symm, upd_ne npw.symm] at hwl
    exact hwl
  refine k wl ce _ (fun b o e => ?_) hw0 hc0 ⟨_, ns ++ [0], upd_same, ⟨_, 0, _, 1, rfl, by split <;> omega, by decide⟩, ?_, by simp, ?_⟩
  · rw [upd_ne (ne_of_none e hw0), upd_ne (ne_of_none e hc0), upd_ne (ne_of_none e hq0), upd_ne (ne_of_none e hp0)]
    exact e
  · rw [upd_ne ncw, upd_same]
  · rw [List.length_append, List.length_singleton]
    omega
/-! ### key -/
def spKey : Sp := fun vs H Q _ => ∃ (wl ce : Addr), vs = [.ref wl] ∧ WellAt H wl ce ∧ ∀ (key : Key) (p : Addr) (w' : List V), key ∈ sixK → H p = none → WellL ce w' → Q (kV key) (upd (upd H p (.lst (sixK.map kV))) wl (.lst w'))
theorem scKey : FnScope ["_law_well_here"] ["_law_well_here"] (defScope lKey) := ⟨rfl, rfl, rfl, by decide +kernel, rfl, by decide +kernel, by decide +kernel⟩
theorem ok_key {f g : Addr} {fd gd : FuncData} (F : Fun K "_law_key" "_law_key" lKey f fd) (G : FnOk P w K mg base CX0 2 g gd ["_law_well_here", "_law_most"] spDig) (bG : Binds K gd ["_law_well_here", "_law_most"] []) (kG : PySem.W.keepIn K (.ref g) = true) (mG : mg "_law_dig" = some (.ref g)) :
    FnOk P w K mg base CX0 3 f fd ["_law_well_here"] spKey := by
  refine F.ok scKey (fun vs H Q E h => ?_) (fun cdv A outer s H vs Q E hr h => ?_)
  · obtain ⟨wl, ce, rfl, _⟩ := h
    rfl
  obtain ⟨wl, ce, rfl, hW, k⟩ := h
  refine ⟨_, pss_one (ps_ret (pe_ix ix_list (pe_lst (pa_cons pe_str (pa_cons pe_str (pa_cons pe_str (pa_cons pe_int (pa_cons pe_int (pa_cons pe_int pa_nil))))))) (pe_call G hr rfl mG kG bG .nil pass0 (pa_cons (pv 0) (pa_cons pe_int pa_nil))) (fun _ _ => rfl))), ?_⟩
  refine ⟨(by show 6 ≤ sizeLine; decide), fun p hp => ?_⟩
  have hW1 := hW.same (same_new hp (.lst (sixK.map kV)))
  obtain ⟨o, ho⟩ := hW.some
  have nwp : wl ≠ p := ne_of_none ho hp
  refine ⟨_, rfl, wl, ce, 6, rfl, hW1, by decide, by decide, fun v w' hv0 hv1 hw' => ?_⟩
  obtain ⟨j, rfl⟩ : ∃ j : Nat, v = (j : Int) := ⟨v.toNat, by omega⟩
  have hj : j < 6 := by omega
  have hget : ∃ key, key ∈ sixK ∧ (sixK.map kV)[j]? = some (kV key) := by
    match j, hj with
    | 0, _ => exact ⟨.inr "a", List.mem_of_getElem? (l := sixK) (i := 0) rfl, rfl⟩
    | 1, _ => exact ⟨.inr "b", List.mem_of_getElem? (l := sixK) (i := 1) rfl, rfl⟩
    | 2, _ => exact ⟨.inr "name", List.mem_of_getElem? (l := sixK) (i := 2) rfl, rfl⟩
    | 3, _ => exact ⟨.inl 0, List.mem_of_getElem? (l := sixK) (i := 3) rfl, rfl⟩
    | 4, _ => exact ⟨.inl 1, List.mem_of_getElem? (l := sixK) (i := 4) rfl, rfl⟩
    | 5, _ => exact ⟨.inl 7, List.mem_of_getElem? (l := sixK) (i := 5) rfl, rfl⟩
  obtain ⟨key, hk6, hkey⟩ := hget
  refine ⟨p, sixK.map kV, _, _, rfl, rfl, SqL.of ?_, at_of (j := j) rfl hkey, ?_⟩
  · rw [upd_ne nwp.symm, upd_same]
    rfl
  · exact k key p w' hk6 hp hw'
end
end Snk
namespace Snk
open PySem L2
/-! ## K. the law's plans -/
/-- all but the well's own list is kept -/
def KB (wl : Addr) (H H' : Hp) : Prop := ∀ b o, H b = some o → b ≠ wl → H' b = some o
theorem KB.refl (wl : Addr) (H : Hp) : KB wl H H := fun _ _ h _ => h
theorem KB.trans {wl : Addr} {H H1 H2 : Hp} (a : KB wl H H1) (b : KB wl H1 H2) : KB wl H H2 := fun c o h n => b c o (a c o h n) n
theorem KB.new {wl p : Addr} {H : Hp} (h : H p = none) (o : HO) : KB wl H (upd H p o) := fun b u e _ => same_new h o b u e
theorem KB.well {wl : Addr} {H : Hp} (o : HO) : KB wl H (upd H wl o) := fun b u e n => by rw [upd_ne n]; exact e
theorem KB.of {wl : Addr} {H H' : Hp} (k : Same H H') : KB wl H H' := fun b u e _ => k b u e
theorem KB.free {wl p : Addr} {H H' : Hp} (k : KB wl H H') (h : H' p = none) (hw : ∃ o, H' wl = some o) : H p = none := by
  cases e : H p with
  | none => rfl
  | some o =>
    have n : p ≠ wl := fun z => by
      obtain ⟨u, hu⟩ := hw
      rw [z, hu] at h
      cases h
    rw [k p o e n] at h
    cases h
/-- a deed's tuple before the things stand in it: a pair ("t", n) in a thing's place -/
def dN : Deed → List (Sum V Nat)
  | .put a k b => [.inl (.str "put"), .inr a, .inl (kV k), .inr b]
  | .take a k => [.inl (.str "take"), .inr a, .inl (kV k)]
  | .make a k => [.inl (.str "make"), .inr a, .inl (kV k)]
def unN (S : Hs) : Sum V Nat → V
  | .inl v => v
  | .inr n => S.rf n
theorem dV_dN (S : Hs) (d : Deed) : dV S d = (dN d).map (unN S) := by cases d <;> rfl
theorem dN_len (d : Deed) : (dN d).length ≤ 4 := by cases d <;> (simp [dN])
def PreV (H : Hp) (x : V) : Sum V Nat → Prop
  | .inl v => x = v ∧ Pln v
  | .inr n => ∃ o, x = .ref o ∧ H o = some (.tup [.str "t", .int (n : Int)])
inductive PreL (H : Hp) : List V → List (Sum V Nat) → Prop where
  | nil : PreL H [] []
  | cons {x : V} {y : Sum V Nat} {xs : List V} {ys : List (Sum V Nat)} (h : PreV H x y) (t : PreL H xs ys) : PreL H (x :: xs) (y :: ys)
theorem PreL.len {H : Hp} : ∀ {xs : List V} {ys : List (Sum V Nat)}, PreL H xs ys → xs.length = ys.length
  | _, _, .nil => rfl
  | _, _, .cons _ t => by rw [List.length_cons, List.length_cons, PreL.len t]
theorem PreL.at_ {H : Hp} : ∀ {xs : List V} {ys : List (Sum V Nat)} {i : Nat} {x : V}, PreL H xs ys → xs[i]? = some x → ∃ y, ys[i]? = some y ∧ PreV H x y
  | _, _, _, _, .nil, h => by simp at h
  | _, _, 0, x, .cons (y := y) h0 _, h => by
    have e : _ = x := Option.some.inj h
    exact ⟨y, rfl, e ▸ h0⟩
  | _, _, i + 1, x, .cons _ t, h => PreL.at_ (i := i) t h
/-- tuples are kept -/
def TK (H H' : Hp) : Prop := ∀ b xs, H b = some (.tup xs) → H' b = some (.tup xs)
theorem TK.kb {wl : Addr} {H H' : Hp} (k : KB wl H H') (hw : ∃ l, H wl = some (.lst l)) : TK H H' := fun b xs e => k b _ e fun z => by
  obtain ⟨l, hl⟩ := hw
  rw [z, hl] at e
  cases e
theorem TK.trans {H H1 H2 : Hp} (a : TK H H1) (b : TK H1 H2) : TK H H2 := fun c xs h => b c xs (a c xs h)
theorem TK.lst {H : Hp} {a : Addr} {l : List V} {o : HO} (h : H a = some (.lst l)) : TK H (upd H a o) := fun b xs e => by
  rw [upd_ne]
  · exact e
  · rintro rfl
    rw [h] at e
    cases e
theorem PreV.mo {H H' : Hp} (k : TK H H') {x : V} : ∀ {y : Sum V Nat}, PreV H x y → PreV H' x y
  | .inl _, h => h
  | .inr _, ⟨o, e, h⟩ => ⟨o, e, k _ _ h⟩
theorem PreL.mo {H H' : Hp} (k : TK H H') : ∀ {xs : List V} {ys : List (Sum V Nat)}, PreL H xs ys → PreL H' xs ys
  | _, _, .nil => .nil
  | _, _, .cons h t => .cons (h.mo k) (PreL.mo k t)
structure PreD (Kn : Nat) (H : Hp) (t : Addr) (d : Deed) : Prop where
  ok : dOk Kn d
  tup : ∃ xs, H t = some (.tup xs) ∧ PreL H xs (dN d)
theorem PreD.mo {Kn : Nat} {H H' : Hp} {t : Addr} {d : Deed} (h : PreD Kn H t d) (k : TK H H') : PreD Kn H' t d := by
  obtain ⟨a, xs, b, c⟩ := h
  exact ⟨a, xs, k _ _ b, c.mo k⟩
theorem dN_ok {Kn : Nat} {d : Deed} (h : dOk Kn d) : ∀ {i : Nat} {n : Nat}, (dN d)[i]? = some (.inr n) → 1 ≤ n ∧ n ≤ Kn := by
  intro i n e
  cases d with
  | put a k b =>
    obtain ⟨h1, _, h2⟩ := h
    match i, e with
    | 0, e => cases e
    | 1, e => cases e; exact h1
    | 2, e => cases e
    | 3, e => cases e; exact h2
    | i + 4, e => cases e
  | take a k =>
    obtain ⟨h1, _⟩ := h
    match i, e with
    | 0, e => cases e
    | 1, e => cases e; exact h1
    | 2, e => cases e
    | i + 3, e => cases e
  | make a k =>
    obtain ⟨h1, _⟩ := h
    match i, e with
    | 0, e => cases e
    | 1, e => cases e; exact h1
    | 2, e => cases e
    | i + 3, e => cases e
section
variable {P : Program} {w : World} {K : PySem.W.Frag} {mg : Str → Option Value} {base : Heap}
theorem isTup_no {H : Hp} {v : V} (h : Pln v) : ∃ t, TyX K H v t ∧ PySem.W.kitOne K t (.type "tuple") = some false := by
  cases v with
  | non => exact ⟨_, .base .non, kit_ty (by decide +kernel)⟩
  | bl b => exact ⟨_, .base (.bl b), kit_ty (by decide +kernel)⟩
  | int i => exact ⟨_, .base (.int i), kit_ty (by decide +kernel)⟩
  | str z => exact ⟨_, .base (.str z), kit_ty (by decide +kernel)⟩
  | byt b => exact h.elim
  | flt b => exact h.elim
  | ref a => exact h.elim
  | ty n => exact h.elim
/-! ### of_things -/
def spOf : Sp := fun vs H Q _ => ∃ (dt t : Addr) (S : Hs) (Kn : Nat) (tk : List (Key × V)) (d : Deed), vs = [.ref dt, .ref t] ∧ H dt = some (.dK tk) ∧ (∀ n, 1 ≤ n → n ≤ Kn → valV tk (Sum.inl (n : Int)) = some (S.rf n)) ∧ PreD Kn H t d ∧
  ∀ (t' : Addr) (H' : Hp), Same H H' → H t' = none → H' t' = some (.tup (dV S d)) → Q (.ref t') H'
theorem scOf : FnScope ["_law_things", "_law_deed", "_law_one"] ["_law_things", "_law_deed"] (defScope lOf) := ⟨rfl, rfl, rfl, by decide +kernel, rfl, by decide +kernel, by decide +kernel⟩
theorem ok_of {f : Addr} {fd : FuncData} (F : Fun K "_law_of_things" "_law_of_things" lOf f fd) (mi : mg "isinstance" = none) (mt : mg "tuple" = none) : FnOk P w K mg base CX0 1 f fd ["_law_things", "_law_deed"] spOf := by
  refine F.ok scOf (fun vs H Q E h => ?_) (fun cdv A outer s H vs Q E hr h => ?_)
  · obtain ⟨dt, t, S, Kn, tk, d, rfl, _⟩ := h
    rfl
  obtain ⟨dt, t, S, Kn, tk, d, rfl, hdt, htk, ⟨hd, xs, htup, hpre⟩, k⟩ := h
  have hu := hu_of hr
  refine ⟨_, pss_one (ps_ret (pe_callTy call_tuple_of (by rfl) mt (by decide +kernel) (pa_cons
    (pe_lc (own := [("_law_one", 2)]) (g := gName 2) (tt := tYes) rfl scOf.nd (pi_tup (pv 1)) (blkOk_by (N := ["_law_things", "_law_deed", "_law_one"]) (sc := defScope lOf) (by decide +kernel)) (fun _ _ _ _ _ => pg_name (i := 2) scOf.nd rfl (Or.inl rfl)) (fun _ _ _ _ _ => pts_nil)
      (fun _ _ _ _ _ => pe_ifExp (pt_val (pe_callB (show CallR _ (.builtin "isinstance") (rIsi K) from call_isi) (by rfl) mi (by decide +kernel) (pa_cons (pv 2) (pa_cons (pe_bltn (v := .ty "tuple") (by rfl) mt (by decide +kernel) rfl) pa_nil)))) (pe_dget hu (pv 0) (pe_ix (show IxR _ (rIxT K) from ix_tup) (pv 2) pe_int (fun _ _ => rfl)) (fun _ _ => rfl)) (pv 2))) pa_nil))), ?_⟩
  refine ⟨_, rfl, t, rfl, ⟨_, SqT.of htup⟩, fun D hD => ?_⟩
  have hlen := hpre.len
  refine lc_tup (K := K) (a := t) (xs := xs) (fun j H2 => Same H H2 ∧ H2 D = some (.lst (((dN d).take j).map (unN S)))) ⟨same_new hD _, upd_same⟩ (fun j H2 _ h2 => SqT.of (h2.1 _ _ htup)) ?_ ?_
  · intro j x H2 hj hP
    obtain ⟨k2, hacc⟩ := hP
    obtain ⟨y, hy, hxy⟩ := hpre.at_ hj
    refine ⟨rfl, ?_⟩
    refine tYes_of ?_
    refine iteT ?_
    have htake : ((dN d).take (j + 1)).map (unN S) = ((dN d).take j).map (unN S) ++ [unN S y] := by
      rw [List.take_succ, hy, List.map_append]
      rfl
    have hlt : (((dN d).take j).map (unN S)).length < sizeLine := by
      rw [List.length_map, List.length_take]
      have := dN_len d
      exact small1000 (by omega)
    have nxt : Same H (upd H2 D (.lst (((dN d).take j).map (unN S) ++ [unN S y]))) ∧ (upd H2 D (.lst (((dN d).take j).map (unN S) ++ [unN S y]))) D = some (.lst (((dN d).take (j + 1)).map (unN S))) := by
      refine ⟨fun b o e => ?_, by rw [upd_same, htake]⟩
      rw [upd_ne (ne_of_none e hD)]
      exact k2 b o e
    cases y with
    | inl v =>
      obtain ⟨rfl, pv0⟩ := hxy
      obtain ⟨ty, h1, h2⟩ := isTup_no (K := K) (H := H2) pv0
      refine ⟨_, rfl, _, _, _, _, false, rfl, .ty "tuple", h1, h2, _, rfl, ?_⟩
      refine iteF ?_
      exact ⟨_, rfl, _, hacc, hlt, nxt⟩
    | inr n =>
      obtain ⟨o, rfl, ho⟩ := hxy
      have ho2 := k2 _ _ ho
      refine ⟨_, rfl, _, _, _, _, true, rfl, .ty "tuple", .base (.tup ho2), kit_ty (by decide +kernel), _, rfl, ?_⟩
      refine iteT ?_
      obtain ⟨r1, r2⟩ := dN_ok hd hy
      refine ⟨_, rfl, _, rfl, o, _, 1, _, rfl, rfl, SqT.of ho2, at_of (j := 1) rfl rfl, dt, S.rf n, rfl, .inl ⟨tk, Sum.inl (n : Int), .inl (k2 _ _ hdt), rfl, (htk n r1 r2).symm⟩, ?_⟩
      exact ⟨_, hacc, hlt, nxt⟩
  · rintro H2 ⟨k2, hacc⟩
    rw [hlen, List.take_length, ← dV_dN] at hacc
    refine ⟨D, _, rfl, .inl ⟨SqL.of hacc, fun t' ht' => ?_⟩⟩
    refine k t' _ (fun b o e => ?_) ?_ upd_same
    · have e2 := k2 b o e
      rw [upd_ne (ne_of_none e2 ht')]
      exact e2
    · cases e : H t' with
      | none => rfl
      | some o =>
        rw [k2 _ _ e] at ht'
        cases ht'
/-! ### plan -/
def spPlanL : Sp := fun vs H Q _ => ∃ (wl ce : Addr) (Kn : Nat), vs = [.ref wl, .int (Kn : Int)] ∧ WellAt H wl ce ∧ 1 ≤ Kn ∧ Kn ≤ 12 ∧
  ∀ (L : Addr) (ts : List (Addr × Deed)) (H' : Hp), KB wl H H' → WellAt H' wl ce → H L = none → ts.length ≤ 3 → H' L = some (.lst (ts.map fun t => V.ref t.1)) → (∀ t, t ∈ ts → PreD Kn H' t.1 t.2) → Q (.ref L) H'
theorem scPlanL : FnScope ["_law_well_here", "_law_many", "_law_deeds", "_law_k", "_law_one", "_law_other", "_law_some"] ["_law_well_here", "_law_many"] (defScope lPlan) := ⟨rfl, rfl, rfl, by decide +kernel, rfl, by decide +kernel, by decide +kernel⟩
/-- one step of the heap in a turn -/
structure Stp (wl ce : Addr) (H H' : Hp) : Prop where
  kb : KB wl H H'
  w : WellAt H' wl ce
theorem Stp.new {wl ce p : Addr} {H0 H : Hp} (s : Stp wl ce H0 H) (h : H p = none) (o : HO) : Stp wl ce H0 (upd H p o) := ⟨s.kb.trans (KB.new h o), s.w.same (same_new h o)⟩
theorem Stp.well {wl ce : Addr} {H0 H : Hp} {w' : List V} (s : Stp wl ce H0 H) (h : WellL ce w') : Stp wl ce H0 (upd H wl (.lst w')) := ⟨s.kb.trans (KB.well _), s.w.upd h⟩
theorem Stp.tk {wl ce : Addr} {H0 H : Hp} (s : Stp wl ce H0 H) (hw : WellAt H0 wl ce) : TK H0 H := TK.kb s.kb (by obtain ⟨w, cs, h1, _⟩ := hw; exact ⟨w, h1⟩)
theorem Stp.newn {wl ce p : Addr} {H0 H : Hp} (s : Stp wl ce H0 H) (h : H p = none) : p ≠ wl := fun z => by
  obtain ⟨o, e⟩ := s.w.some
  rw [z, e] at h
  cases h
theorem ok_planL {f d g : Addr} {fd dd gd : FuncData} (F : Fun K "_law_plan" "_law_plan" lPlan f fd)
    (D : FnOk P w K mg base CX0 2 d dd ["_law_well_here", "_law_most"] spDig) (bD : Binds K dd ["_law_well_here", "_law_most"] []) (kD : PySem.W.keepIn K (.ref d) = true) (mD : mg "_law_dig" = some (.ref d))
    (G : FnOk P w K mg base CX0 3 g gd ["_law_well_here"] spKey) (bG : Binds K gd ["_law_well_here"] []) (kG : PySem.W.keepIn K (.ref g) = true) (mG : mg "_law_key" = some (.ref g)) (mr : mg "range" = none) :
    FnOk P w K mg base CX0 4 f fd ["_law_well_here", "_law_many"] spPlanL := by
  refine F.ok scPlanL (fun vs H Q E h => ?_) (fun cdv A outer s H vs Q E hr h => ?_)
  · obtain ⟨wl, ce, Kn, rfl, _⟩ := h
    rfl
  obtain ⟨wl, ce, Kn, rfl, hW, hK1, hK2, k⟩ := h
  have hr2 : Room 2 _ := hr.mono (by decide)
  refine ⟨_, pss_cons (ps_set (i := 2) scPlanL.nd rfl (Or.inl rfl) (pe_lst pa_nil))
    (pss_cons (ps_for PassesOwn.never rfl (pi_range1 rfl mr (pa_cons (pe_call D hr2 rfl mD kD bD .nil pass0 (pa_cons (pv 0) (pa_cons pe_int pa_nil))) pa_nil)) (pg_name (i := 3) scPlanL.nd rfl (Or.inl rfl))
      (pss_cons (ps_set (i := 4) scPlanL.nd rfl (Or.inl rfl) (pe_tup (pa_cons pe_str (pa_cons (pe_op op_add pe_int (pe_call D hr2 rfl mD kD bD .nil pass0 (pa_cons (pv 0) (pa_cons (pv 1) pa_nil)))) pa_nil))))
      (pss_cons (ps_set (i := 5) scPlanL.nd rfl (Or.inl rfl) (pe_tup (pa_cons pe_str (pa_cons (pe_op op_add pe_int (pe_call D hr2 rfl mD kD bD .nil pass0 (pa_cons (pv 0) (pa_cons (pv 1) pa_nil)))) pa_nil))))
      (pss_cons (ps_set (i := 6) scPlanL.nd rfl (Or.inl rfl) (pe_lst
          (pa_cons (pe_tup (pa_cons pe_str (pa_cons (pv 4) (pa_cons (pe_call G hr rfl mG kG bG .nil pass0 (pa_cons (pv 0) pa_nil)) (pa_cons (pv 5) pa_nil)))))
          (pa_cons (pe_tup (pa_cons pe_str (pa_cons (pv 4) (pa_cons (pe_call G hr rfl mG kG bG .nil pass0 (pa_cons (pv 0) pa_nil)) pa_nil))))
          (pa_cons (pe_tup (pa_cons pe_str (pa_cons (pv 4) (pa_cons (pe_call G hr rfl mG kG bG .nil pass0 (pa_cons (pv 0) pa_nil)) pa_nil)))) pa_nil)))))
      (pss_one (ps_expr (pe_bm PySem.F.plainAttrs_list PySem.F.slot_list_append PySem.F.type_list_append mt_append (pv 2) (pa_cons
          (pe_ix ix_list (pe_op op_cat (pv 6) (pe_lst (pa_cons (pe_tup (pa_cons pe_str (pa_cons (pe_tup (pa_cons pe_str (pa_cons pe_int pa_nil))) (pa_cons (pe_call G hr rfl mG kG bG .nil pass0 (pa_cons (pv 0) pa_nil)) (pa_cons (pv 5) pa_nil))))) pa_nil)))
            (pe_call D hr2 rfl mD kD bD .nil pass0 (pa_cons (pv 0) (pa_cons pe_int pa_nil))) (fun _ _ => rfl)) pa_nil))))))))
    (pss_one (ps_ret (pv 2)))), ?_⟩
  refine ⟨Nat.zero_le _, fun L hL => ?_⟩
  have s0 : Stp wl ce H H := ⟨KB.refl wl H, hW⟩
  have s1 := s0.new hL (.lst [])
  have nL : L ≠ wl := s0.newn hL
  refine ⟨_, rfl, wl, ce, 4, rfl, s1.w, by decide, by decide, fun v w1 hv0 hv1 hw1 => ?_⟩
  have s2 := s1.well hw1
  refine ⟨v, rfl, by omega, by omega, ?_⟩
  refine for_range (lo := 0) (n := v.toNat) (fun i σ Hc => ∃ (ts : List (Addr × Deed)) (a b c e : Option V), σ = [some (.ref wl), some (.int (Kn : Int)), some (.ref L), a, b, c, e] ∧ Stp wl ce H Hc ∧ ts.length = i ∧ Hc L = some (.lst (ts.map fun t => V.ref t.1)) ∧ ∀ t, t ∈ ts → PreD Kn Hc t.1 t.2)
    ⟨[], none, none, none, none, rfl, s2, rfl, by rw [upd_ne nL, upd_same]; rfl, (fun t ht => nomatch ht)⟩ ?_ ?_
  · rintro i σ Hc hi ⟨ts, a, b, c, e, rfl, sc, hlen, hLc, hts⟩
    have hi3 : i < 4 := by omega
    have r0 : Stp wl ce Hc Hc := ⟨KB.refl wl Hc, sc.w⟩
    -- one, other
    refine ⟨_, rfl, _, rfl, wl, ce, (Kn : Int), rfl, r0.w, by omega, by omega, fun v1 w2 hv10 hv11 hw2 => ?_⟩
    have r1 := r0.well hw2
    refine ⟨_, _, rfl, rfl, (by show 2 ≤ sizeLine; decide), fun o1 ho1 => ?_⟩
    have r2 := r1.new ho1 (.tup [.str "t", .int (1 + v1)])
    have no1 : o1 ≠ wl := r1.newn ho1
    obtain ⟨Ha, ea⟩ : ∃ Ha, Ha = upd (upd Hc wl (.lst w2)) o1 (.tup [.str "t", .int (1 + v1)]) := ⟨_, rfl⟩
    have ho1a : Ha o1 = some (.tup [.str "t", .int (1 + v1)]) := by rw [ea]; exact upd_same
    rw [← ea] at r2 ⊢
    refine ⟨_, rfl, _, rfl, wl, ce, (Kn : Int), rfl, r2.w, by omega, by omega, fun v2 w3 hv20 hv21 hw3 => ?_⟩
    have r3 := r2.well hw3
    refine ⟨_, _, rfl, rfl, (by show 2 ≤ sizeLine; decide), fun o2 ho2 => ?_⟩
    have r4 := r3.new ho2 (.tup [.str "t", .int (1 + v2)])
    have q4 : KB wl Ha (upd (upd Ha wl (.lst w3)) o2 (.tup [.str "t", .int (1 + v2)])) := (KB.well _).trans (KB.new ho2 _)
    obtain ⟨Hb, eb⟩ : ∃ Hb, Hb = upd (upd Ha wl (.lst w3)) o2 (.tup [.str "t", .int (1 + v2)]) := ⟨_, rfl⟩
    have ho2b : Hb o2 = some (.tup [.str "t", .int (1 + v2)]) := by rw [eb]; exact upd_same
    have no2 : o2 ≠ wl := r3.newn ho2
    rw [← eb] at r4 q4 ⊢
    have ho1b : Hb o1 = some (.tup [.str "t", .int (1 + v1)]) := q4 _ _ ho1a no1
    have rb : Stp wl ce Hb Hb := ⟨KB.refl wl Hb, r4.w⟩
    -- some
    refine ⟨_, rfl, _, rfl, wl, ce, rfl, rb.w, fun k1 p1 w4 hk1 hp1 hw4 => ?_⟩
    have rc1 := (rb.new hp1 (.lst (sixK.map kV))).well hw4
    refine ⟨_, rfl, (by show 4 ≤ sizeLine; decide), fun t1 ht1 => ?_⟩
    have rc2 := rc1.new ht1 (.tup [.str "put", .ref o1, kV k1, .ref o2])
    have nt1 : t1 ≠ wl := rc1.newn ht1
    obtain ⟨Hd, ed⟩ : ∃ Hd, Hd = upd (upd (upd Hb p1 (.lst (sixK.map kV))) wl (.lst w4)) t1 (.tup [.str "put", .ref o1, kV k1, .ref o2]) := ⟨_, rfl⟩
    have ht1d : Hd t1 = some (.tup [.str "put", .ref o1, kV k1, .ref o2]) := by rw [ed]; exact upd_same
    rw [← ed] at rc2 ⊢
    have rd : Stp wl ce Hd Hd := ⟨KB.refl wl Hd, rc2.w⟩
    refine ⟨_, rfl, _, rfl, wl, ce, rfl, rd.w, fun k2 p2 w5 hk2 hp2 hw5 => ?_⟩
    have rd1 := (rd.new hp2 (.lst (sixK.map kV))).well hw5
    refine ⟨(by show 3 ≤ sizeLine; decide), fun t2 ht2 => ?_⟩
    have rd2 := rd1.new ht2 (.tup [.str "take", .ref o1, kV k2])
    have nt2 : t2 ≠ wl := rd1.newn ht2
    obtain ⟨He, ee⟩ : ∃ He, He = upd (upd (upd Hd p2 (.lst (sixK.map kV))) wl (.lst w5)) t2 (.tup [.str "take", .ref o1, kV k2]) := ⟨_, rfl⟩
    have ht2e : He t2 = some (.tup [.str "take", .ref o1, kV k2]) := by rw [ee]; exact upd_same
    rw [← ee] at rd2 ⊢
    have re : Stp wl ce He He := ⟨KB.refl wl He, rd2.w⟩
    refine ⟨_, rfl, _, rfl, wl, ce, rfl, re.w, fun k3 p3 w6 hk3 hp3 hw6 => ?_⟩
    have re1 := (re.new hp3 (.lst (sixK.map kV))).well hw6
    refine ⟨(by show 3 ≤ sizeLine; decide), fun t3 ht3 => ?_⟩
    have re2 := re1.new ht3 (.tup [.str "make", .ref o1, kV k3])
    have nt3 : t3 ≠ wl := re1.newn ht3
    obtain ⟨Hf, ef⟩ : ∃ Hf, Hf = upd (upd (upd He p3 (.lst (sixK.map kV))) wl (.lst w6)) t3 (.tup [.str "make", .ref o1, kV k3]) := ⟨_, rfl⟩
    have ht3f : Hf t3 = some (.tup [.str "make", .ref o1, kV k3]) := by rw [ef]; exact upd_same
    rw [← ef] at re2 ⊢
    refine ⟨(by show 3 ≤ sizeLine; decide), fun sl hsl => ?_⟩
    have rf : Stp wl ce Hf Hf := ⟨KB.refl wl Hf, re2.w⟩
    have rf1 := rf.new hsl (.lst [.ref t1, .ref t2, .ref t3])
    have nsl : sl ≠ wl := rf.newn hsl
    obtain ⟨Hg, eg⟩ : ∃ Hg, Hg = upd Hf sl (.lst [.ref t1, .ref t2, .ref t3]) := ⟨_, rfl⟩
    have hslg : Hg sl = some (.lst [.ref t1, .ref t2, .ref t3]) := by rw [eg]; exact upd_same
    rw [← eg] at rf1 ⊢
    have kcg : KB wl Hc Hg := r2.kb.trans (q4.trans (rc2.kb.trans (rd2.kb.trans (re2.kb.trans rf1.kb))))
    have hLg : Hg L = some (.lst (ts.map fun t => V.ref t.1)) := kcg _ _ hLc nL
    have rg : Stp wl ce Hg Hg := ⟨KB.refl wl Hg, rf1.w⟩
    -- deeds.append
    refine ⟨_, rfl, .inl ⟨rfl, _, SqL.of hLg⟩, _, rfl, (by show 2 ≤ sizeLine; decide), fun o3 ho3 => ?_⟩
    have rg1 := rg.new ho3 (.tup [.str "t", .int 1])
    have no3 : o3 ≠ wl := rg.newn ho3
    obtain ⟨Hh, eh⟩ : ∃ Hh, Hh = upd Hg o3 (.tup [.str "t", .int 1]) := ⟨_, rfl⟩
    have ho3h : Hh o3 = some (.tup [.str "t", .int 1]) := by rw [eh]; exact upd_same
    rw [← eh] at rg1 ⊢
    have rh : Stp wl ce Hh Hh := ⟨KB.refl wl Hh, rg1.w⟩
    refine ⟨_, rfl, wl, ce, rfl, rh.w, fun k4 p4 w7 hk4 hp4 hw7 => ?_⟩
    have rh1 := (rh.new hp4 (.lst (sixK.map kV))).well hw7
    refine ⟨_, rfl, (by show 4 ≤ sizeLine; decide), fun t4 ht4 => ?_⟩
    have rh2 := rh1.new ht4 (.tup [.str "put", .ref o3, kV k4, .ref o2])
    have nt4 : t4 ≠ wl := rh1.newn ht4
    obtain ⟨Hi, ei⟩ : ∃ Hi, Hi = upd (upd (upd Hh p4 (.lst (sixK.map kV))) wl (.lst w7)) t4 (.tup [.str "put", .ref o3, kV k4, .ref o2]) := ⟨_, rfl⟩
    have ht4i : Hi t4 = some (.tup [.str "put", .ref o3, kV k4, .ref o2]) := by rw [ei]; exact upd_same
    rw [← ei] at rh2 ⊢
    refine ⟨(by show 1 ≤ sizeLine; decide), fun ql hql => ?_⟩
    have ri : Stp wl ce Hi Hi := ⟨KB.refl wl Hi, rh2.w⟩
    have ri1 := ri.new hql (.lst [.ref t4])
    have nql : ql ≠ wl := ri.newn hql
    obtain ⟨Hj, ej⟩ : ∃ Hj, Hj = upd Hi ql (.lst [.ref t4]) := ⟨_, rfl⟩
    have hqlj : Hj ql = some (.lst [.ref t4]) := by rw [ej]; exact upd_same
    rw [← ej] at ri1 ⊢
    have kgj : KB wl Hg Hj := rg1.kb.trans (rh2.kb.trans ri1.kb)
    have hslj : Hj sl = some (.lst [.ref t1, .ref t2, .ref t3]) := kgj _ _ hslg nsl
    refine ⟨sl, ql, _, _, rfl, rfl, hslj, hqlj, (by show 4 ≤ sizeLine; decide), fun cl hcl => ?_⟩
    have rj : Stp wl ce Hj Hj := ⟨KB.refl wl Hj, ri1.w⟩
    have rj1 := rj.new hcl (.lst ([.ref t1, .ref t2, .ref t3] ++ [.ref t4]))
    have ncl : cl ≠ wl := rj.newn hcl
    refine ⟨_, rfl, wl, ce, 4, rfl, rj1.w, by decide, by decide, fun v3 w8 hv30 hv31 hw8 => ?_⟩
    have rj2 := rj1.well hw8
    obtain ⟨Hk, ek⟩ : ∃ Hk, Hk = upd (upd Hj cl (.lst ([.ref t1, .ref t2, .ref t3] ++ [.ref t4]))) wl (.lst w8) := ⟨_, rfl⟩
    have hclk : Hk cl = some (.lst [.ref t1, .ref t2, .ref t3, .ref t4]) := by rw [ek, upd_ne ncl, upd_same]; rfl
    rw [← ek] at rj2 ⊢
    have kgk : KB wl Hg Hk := kgj.trans rj2.kb
    have kck : KB wl Hc Hk := kcg.trans kgk
    have hLk : Hk L = some (.lst (ts.map fun t => V.ref t.1)) := kgk _ _ hLg nL
    have kfk : KB wl Hf Hk := rf1.kb.trans kgk
    have kek : KB wl He Hk := re2.kb.trans kfk
    have kdk : KB wl Hd Hk := rd2.kb.trans kek
    have kbk : KB wl Hb Hk := rc2.kb.trans kdk
    have khk : KB wl Hh Hk := rh2.kb.trans (ri1.kb.trans rj2.kb)
    have kik : KB wl Hi Hk := ri1.kb.trans rj2.kb
    have e1 : (1 : Int) + v1 = ((1 + v1.toNat : Nat) : Int) := by omega
    have e2 : (1 : Int) + v2 = ((1 + v2.toNat : Nat) : Int) := by omega
    have po1 : PreV Hk (.ref o1) (.inr (1 + v1.toNat)) := ⟨o1, rfl, by rw [← e1]; exact kbk _ _ ho1b no1⟩
    have po2 : PreV Hk (.ref o2) (.inr (1 + v2.toNat)) := ⟨o2, rfl, by rw [← e2]; exact kbk _ _ ho2b no2⟩
    have po3 : PreV Hk (.ref o3) (.inr 1) := ⟨o3, rfl, khk _ _ ho3h no3⟩
    have b1 : 1 ≤ 1 + v1.toNat ∧ 1 + v1.toNat ≤ Kn := by omega
    have b2 : 1 ≤ 1 + v2.toNat ∧ 1 + v2.toNat ≤ Kn := by omega
    have pd1 : PreD Kn Hk t1 (.put (1 + v1.toNat) k1 (1 + v2.toNat)) := ⟨⟨b1, hk1, b2⟩, _, kdk _ _ ht1d nt1, .cons ⟨rfl, trivial⟩ (.cons po1 (.cons ⟨rfl, kV_pln k1⟩ (.cons po2 .nil)))⟩
    have pd2 : PreD Kn Hk t2 (.take (1 + v1.toNat) k2) := ⟨⟨b1, hk2⟩, _, kek _ _ ht2e nt2, .cons ⟨rfl, trivial⟩ (.cons po1 (.cons ⟨rfl, kV_pln k2⟩ .nil))⟩
    have pd3 : PreD Kn Hk t3 (.make (1 + v1.toNat) k3) := ⟨⟨b1, hk3⟩, _, kfk _ _ ht3f nt3, .cons ⟨rfl, trivial⟩ (.cons po1 (.cons ⟨rfl, kV_pln k3⟩ .nil))⟩
    have pd4 : PreD Kn Hk t4 (.put 1 k4 (1 + v2.toNat)) := ⟨⟨⟨by omega, by omega⟩, hk4, b2⟩, _, kik _ _ ht4i nt4, .cons ⟨rfl, trivial⟩ (.cons po3 (.cons ⟨rfl, kV_pln k4⟩ (.cons po2 .nil)))⟩
    obtain ⟨j, rfl⟩ : ∃ j : Nat, v3 = (j : Int) := ⟨v3.toNat, by omega⟩
    have hj4 : j < 4 := by omega
    have pick : ∃ (t : Addr) (d : Deed), ([V.ref t1, .ref t2, .ref t3, .ref t4] : List V)[j]? = some (.ref t) ∧ PreD Kn Hk t d := by
      match j, hj4 with
      | 0, _ => exact ⟨t1, _, rfl, pd1⟩
      | 1, _ => exact ⟨t2, _, rfl, pd2⟩
      | 2, _ => exact ⟨t3, _, rfl, pd3⟩
      | 3, _ => exact ⟨t4, _, rfl, pd4⟩
    obtain ⟨t, dd0, hget, hpd⟩ := pick
    refine ⟨cl, _, _, _, rfl, rfl, SqL.of hclk, at_of rfl hget, L, _, _, rfl, rfl, hLk, ?_, ?_⟩
    · rw [List.length_map, hlen]
      exact small1000 (by omega)
    have tkc : TK Hc Hk := TK.kb kck (by obtain ⟨w0, cs, z1, _⟩ := sc.w; exact ⟨w0, z1⟩)
    have tkL : TK Hk (upd Hk L (.lst ((ts.map fun t => V.ref t.1) ++ [V.ref t]))) := TK.lst hLk
    have kbF : KB wl H (upd Hk L (.lst ((ts.map fun t => V.ref t.1) ++ [V.ref t]))) := fun b o e n => by
      rw [upd_ne (ne_of_none e hL)]
      exact kck b o (sc.kb b o e n) n
    have nce : ce ≠ L := fun z => by
      obtain ⟨w0, cs, _, _, z3, z4, _⟩ := hW
      rw [z, hL] at z3
      cases z3
    have wF : WellAt (upd Hk L (.lst ((ts.map fun t => V.ref t.1) ++ [V.ref t]))) wl ce := by
      obtain ⟨w0, cs, z1, z2, z3, z4⟩ := rj2.w
      exact ⟨w0, cs, by rw [upd_ne nL.symm]; exact z1, z2, by rw [upd_ne nce]; exact z3, z4⟩
    refine ⟨ts ++ [(t, dd0)], _, _, _, _, rfl, ⟨kbF, wF⟩, by rw [List.length_append, List.length_singleton, hlen], ?_, fun u hu => ?_⟩
    · rw [upd_same, List.map_append]
      rfl
    · rcases List.mem_append.mp hu with z | z
      · exact ((hts u z).mo tkc).mo tkL
      · rw [List.mem_singleton.mp z]
        exact hpd.mo tkL
  · rintro σ Hc ⟨ts, a, b, c, e, rfl, sc, hlen, hLc, hts⟩
    refine ⟨_, rfl, ?_⟩
    exact k L ts Hc sc.kb sc.w hL (by omega) hLc hts
end
end Snk
namespace Snk
open PySem L2
/-! ## L. the law looks at the hall -/
/-- the frame behind what the law does beside the hall -/
theorem Rep.upto {W : Wd} {S : Hs} {F H H' : Hp} (R : Rep W S F H) {wl : Addr} (hw : ∃ o, F wl = some o) (k : KB wl H H') :
    ∃ F', Rep W S F' H' ∧ KB wl F F' ∧ (∀ o, H' wl = some o → F' wl = some o) ∧ ∀ b o, H b = none → H' b = some o → F' b = some o := by
  have oldR : ∀ r a, adr W S r = some a → H' a = some (obj W S r) := fun r a h => k a _ (R.at_ r a h) fun z => by
    obtain ⟨o, ho⟩ := hw
    rw [← z] at ho
    exact R.dj a o r ho h
  refine ⟨fun b => match F b with | some _ => H' b | none => match H b with | none => H' b | some _ => none, ⟨oldR, R.inj, fun b o h => ?_, fun b o r h => ?_⟩, fun b o h n => ?_, fun o h => ?_, fun b o h1 h2 => ?_⟩
  · cases e : F b with
    | some u => rw [e] at h; exact h
    | none =>
      rw [e] at h
      simp only at h
      cases e2 : H b with
      | none => rw [e2] at h; exact h
      | some u => rw [e2] at h; cases h
  · cases e : F b with
    | some u => exact R.dj b u r e
    | none =>
      rw [e] at h
      simp only at h
      cases e2 : H b with
      | none => exact R.free e2 r
      | some u => rw [e2] at h; cases h
  · show (match F b with | some _ => H' b | none => match H b with | none => H' b | some _ => none) = some o
    rw [h]
    exact k b o (R.fr b o h) n
  · obtain ⟨u, hu⟩ := hw
    show (match F wl with | some _ => H' wl | none => match H wl with | none => H' wl | some _ => none) = some o
    rw [hu]
    exact h
  · show (match F b with | some _ => H' b | none => match H b with | none => H' b | some _ => none) = some o
    rw [R.ffree h1, h1]
    exact h2
def tkv (S : Hs) (Kn : Nat) : List (Key × V) := (List.range Kn).map fun i : Nat => ((Sum.inl ((i + 1 : Nat) : Int) : Key), S.rf (i + 1))
theorem tkv_at {S : Hs} {Kn i : Nat} (h : i < Kn) : (tkv S Kn)[i]? = some ((Sum.inl ((i + 1 : Nat) : Int) : Key), S.rf (i + 1)) := by
  unfold tkv
  rw [List.getElem?_map, List.getElem?_range h]
  rfl
theorem tkv_len (S : Hs) (Kn : Nat) : (tkv S Kn).length = Kn := by
  unfold tkv
  rw [List.length_map, List.length_range]
theorem valV_nd {kvs : List (Key × V)} {k : Key} {v : V} (nd : (kvs.map (·.1)).Nodup) (h : (k, v) ∈ kvs) : valV kvs k = some v := by
  induction kvs with
  | nil => cases h
  | cons p r ih =>
    have nd' : (p.1 :: r.map (·.1)).Nodup := nd
    obtain ⟨n1, n2⟩ := List.nodup_cons.mp nd'
    rcases List.mem_cons.mp h with e | e
    · subst e
      exact valV_pos rfl
    · rw [valV_neg fun z => n1 (by rw [z]; exact List.mem_map.mpr ⟨(k, v), e, rfl⟩)]
      exact ih n2 e
theorem inl_nodup {T : List Nat} (h : T.Nodup) (f : Nat → V) : ((T.map fun n : Nat => ((Sum.inl (n : Int) : Key), f n)).map (·.1)).Nodup := by
  rw [List.map_map]
  refine List.pairwise_map.mpr (List.Pairwise.imp ?_ h)
  intro a b n e
  have := Sum.inl.inj e
  exact n (by omega)
theorem tkv_get {S : Hs} {Kn n : Nat} (h1 : 1 ≤ n) (h2 : n ≤ Kn) : valV (tkv S Kn) (Sum.inl (n : Int)) = some (S.rf n) := by
  have nd : ((tkv S Kn).map (·.1)).Nodup := by
    unfold tkv
    rw [List.map_map]
    refine List.pairwise_map.mpr (List.Pairwise.imp ?_ List.nodup_range)
    intro a b n e
    have := Sum.inl.inj e
    exact n (by omega)
  refine valV_nd nd (List.mem_map.mpr ⟨n - 1, List.mem_range.mpr (by omega), ?_⟩)
  have : n - 1 + 1 = n := by omega
  rw [this]
section
variable {P : Program} {w : World} {K : PySem.W.Frag} {mg : Str → Option Value} {base : Heap} {C CH CE : Addr}
def spThingL (C : Addr) : Sp := fun vs H Q _ => ∃ v, vs = [v] ∧ ((Pln v ∧ Q (.bl false) H) ∨ ∃ a dx fs, v = .ref a ∧ H a = some (.ins C dx fs) ∧ Q (.bl true) H)
theorem scThingL : FnScope ["_law_value"] ["_law_value"] (defScope lThing) := ⟨rfl, rfl, rfl, by decide +kernel, rfl, by decide +kernel, by decide +kernel⟩
theorem ok_thingL {f : Addr} {fd : FuncData} (F : Fun K "_law_thing" "_law_thing" lThing f fd) (T : Txt K mg C CH CE) : FnOk P w K mg base CX0 1 f fd ["_law_value"] (spThingL C) := by
  refine F.ok scThingL (fun vs H Q E h => ?_) (fun cdv A outer s H vs Q E hr h => ?_)
  · obtain ⟨v, rfl, _⟩ := h
    rfl
  obtain ⟨v, rfl, h⟩ := h
  refine ⟨_, pss_one (ps_ret (pe_callB call_isi (by rfl) T.isi (by decide +kernel) (pa_cons (pv 0) (pa_cons (pe_glob (v := .ref C) rfl T.mgT rfl) pa_nil)))), ?_⟩
  rcases h with ⟨pl, k⟩ | ⟨a, dx, fs, rfl, ha, k⟩
  · obtain ⟨t, ty, e⟩ := isT_no T (H := H) pl
    exact ⟨_, rfl, _, _, _, _, false, rfl, .own C, ty, e, k⟩
  · exact ⟨_, rfl, _, _, _, _, true, rfl, .own C, isT_yes T ha, kThing, k⟩
/-! ### all_known -/
/-- what the dict of those that are known says -/
def KnC (S : Hs) (kn : List (Key × V)) : Prop := ∀ (n : Nat) v, valV kn (Sum.inl (n : Int)) = some v → v = S.rf n
def KnHas (S : Hs) (kn : List (Key × V)) (n : Nat) : Prop := valV kn (Sum.inl (n : Int)) = some (S.rf n)
theorem KnHas.put {S : Hs} {kn : List (Key × V)} {n m : Nat} (h : KnHas S kn n) : KnHas S (putK kn (Sum.inl (m : Int)) (S.rf m)) n := by
  unfold KnHas
  rw [valV_put]
  by_cases e : (Sum.inl (n : Int) : Key) = Sum.inl (m : Int)
  · rw [if_pos e]
    have : n = m := by have := Sum.inl.inj e; omega
    rw [this]
  · rw [if_neg e]
    exact h
theorem KnHas.new {S : Hs} {kn : List (Key × V)} {m : Nat} : KnHas S (putK kn (Sum.inl (m : Int)) (S.rf m)) m := by
  unfold KnHas
  rw [valV_put, if_pos rfl]
/-- a value that stands in a part of one that is not gone -/
theorem Inv.part {Kn : Nat} {S : Hs} {ext : List V} {act sus : List Nat} {x : Nat} (I : Inv Kn S ext act sus x) {m : Nat} (hm : 1 ≤ m ∧ m ≤ S.many) {kv : Key × V} (h : kv ∈ (S.th m).parts) : OkV S kv.2 ∧ m ∈ S.there := by
  rcases List.mem_append.mp ((I.mem m).mpr hm) with z | z
  · exact ⟨I.pv m z kv h, z⟩
  · rw [I.lp m z] at h
    cases h
theorem Inv.plen' {Kn : Nat} {S : Hs} {ext : List V} {act sus : List Nat} {x : Nat} (I : Inv Kn S ext act sus x) {m : Nat} (hm : 1 ≤ m ∧ m ≤ S.many) : (S.th m).parts.length ≤ 6 := by
  rcases List.mem_append.mp ((I.mem m).mpr hm) with z | z
  · exact I.plen z
  · rw [I.lp m z]
    exact Nat.zero_le _
theorem Inv.pnd {Kn : Nat} {S : Hs} {ext : List V} {act sus : List Nat} {x : Nat} (I : Inv Kn S ext act sus x) {m : Nat} (hm : 1 ≤ m ∧ m ≤ S.many) : ((S.th m).parts.map (·.1)).Nodup := by
  rcases List.mem_append.mp ((I.mem m).mpr hm) with z | z
  · exact (I.pk m z).1
  · rw [I.lp m z]
    exact List.nodup_nil
def spKnown (C CH CE : Addr) : Sp := fun vs H Q _ => ∃ (W : Wd) (S : Hs) (F : Hp) (Kn : Nat) (ext : List V) (dt : Addr), IsW W C CH CE ∧ vs = [.ref dt] ∧ Rep W S F H ∧ Inv Kn S ext [] [] 0 ∧ Kn ≤ 12 ∧ F dt = some (.dK (tkv S Kn)) ∧
  ∀ (kd : Addr) (kn : List (Key × V)) (H' : Hp), Same H H' → H kd = none → H' kd = some (.dK kn) → (∀ n, 1 ≤ n → n ≤ Kn → KnHas S kn n) → (∀ m, 1 ≤ m → m ≤ Kn → ∀ kv, kv ∈ (S.th m).parts → ∀ n, n ∈ S.there → kv.2 = S.rf n → KnHas S kn n) → Q (.ref kd) H'
theorem scKnown : FnScope ["_law_things", "_law_known", "_law_n", "_law_key_here"] ["_law_things"] (defScope lKnown) := ⟨rfl, rfl, rfl, by decide +kernel, rfl, by decide +kernel, by decide +kernel⟩
theorem ok_known {f g : Addr} {fd gd : FuncData} (F : Fun K "_law_all_known" "_law_all_known" lKnown f fd) (T : Txt K mg C CH CE) (FG : Fun K "_law_thing" "_law_thing" lThing g gd) (bG : Binds K gd ["_law_value"] []) (mG : mg "_law_thing" = some (.ref g)) (md : mg "dict" = none) :
    FnOk P w K mg base CX0 2 f fd ["_law_things"] (spKnown C CH CE) := by
  have G : FnOk P w K mg base CX0 1 g gd ["_law_value"] (spThingL C) := ok_thingL FG T
  refine F.ok scKnown (fun vs H Q E h => ?_) (fun cdv A outer s H vs Q E hr h => ?_)
  · obtain ⟨W, S, F, Kn, ext, dt, _, rfl, _⟩ := h
    rfl
  obtain ⟨W, S, F, Kn, ext, dt, ⟨rfl, rfl, rfl⟩, rfl, R, I, hK, hdt, k⟩ := h
  have hu := hu_of hr
  refine ⟨_, pss_cons (ps_set (i := 1) scKnown.nd rfl (Or.inl rfl) (pe_callTy call_dictD (by rfl) md (by decide +kernel) (pa_cons (pv 0) pa_nil)))
    (pss_cons (ps_lock (ps_for PassesOwn.never rfl (pi_keys (pv 0)) (pg_name (i := 2) scKnown.nd rfl (Or.inl rfl))
      (pss_one (ps_lock (ps_for PassesOwn.never rfl (pi_keys (pe_fld (pe_dget hu (pv 0) (pv 2) (fun _ _ => rfl)) rfl)) (pg_name (i := 3) scKnown.nd rfl (Or.inl rfl))
        (pss_one (ps_if (pt_val (pe_call G hr rfl mG FG.kp bG .nil pass0 (pa_cons (pe_dget hu (pe_fld (pe_dget hu (pv 0) (pv 2) (fun _ _ => rfl)) rfl) (pv 3) (fun _ _ => rfl)) pa_nil)))
          (pss_one (ps_dput hu (pv 1) (pe_fld (pe_dget hu (pe_fld (pe_dget hu (pv 0) (pv 2) (fun _ _ => rfl)) rfl) (pv 3) (fun _ _ => rfl)) rfl) (pe_dget hu (pe_fld (pe_dget hu (pv 0) (pv 2) (fun _ _ => rfl)) rfl) (pv 3) (fun _ _ => rfl)) rfl)) pss_nil)))))))
    (pss_one (ps_ret (pv 1)))), ?_⟩
  have hdtH := R.fr _ _ hdt
  refine ⟨_, rfl, _, _, rfl, .inl hdtH, fun kd hkd => ?_⟩
  have nkd : kd ≠ dt := (ne_of_none hdtH hkd).symm
  refine ⟨dt, .dK (tkv S Kn), by rw [upd_ne nkd.symm]; exact hdtH, trivial, fun od => ?_⟩
  refine ⟨_, rfl, dt, od, rfl, .inl ⟨tkv S Kn, upd_same, ?_⟩⟩
  have hlenT := tkv_len S Kn
  refine for_it walk_keys (fun i σ Hc => ∃ (kn : List (Key × V)) (a b : Option V), σ = [some (.ref dt), some (.ref kd), a, b] ∧ Hc dt = some (.frz od (.dK (tkv S Kn))) ∧ Hc kd = some (.dK kn) ∧ (∀ b o, H b = some o → b ≠ dt → Hc b = some o) ∧
      kn.length ≤ Kn + 6 * i ∧ (∀ n, 1 ≤ n → n ≤ Kn → KnHas S kn n) ∧ (∀ m, 1 ≤ m → m ≤ i → ∀ kv, kv ∈ (S.th m).parts → ∀ n, n ∈ S.there → kv.2 = S.rf n → KnHas S kn n))
    ⟨tkv S Kn, none, none, rfl, upd_same, by rw [upd_ne nkd, upd_same], fun b o e n => by rw [upd_ne n, upd_ne (ne_of_none e hkd)]; exact e, by rw [hlenT]; omega, fun n h1 h2 => tkv_get h1 h2, fun m h1 h2 => by omega⟩
    (fun i σ Hc _ ⟨kn, a, b, _, h1, _⟩ => h1) ?_ ?_
  · rintro i x σ Hc Hc2 hi ⟨kn, a, b, rfl, hcd, hck, hcs, hlen, hP1, hP2⟩ ⟨e0, k0, v0, hget, rfl⟩
    rw [e0]
    rw [hlenT] at hi
    rw [tkv_at hi] at hget
    obtain ⟨rfl, rfl⟩ : ((Sum.inl ((i + 1 : Nat) : Int) : Key)) = k0 ∧ S.rf (i + 1) = v0 := by
      have := Option.some.inj hget
      exact ⟨congrArg Prod.fst this, congrArg Prod.snd this⟩
    have hm : 1 ≤ i + 1 ∧ i + 1 ≤ S.many := ⟨by omega, Nat.le_trans hi I.km⟩
    have hmK : i + 1 ≤ Kn := hi
    have hdg : DGet Hc dt (.int ((i + 1 : Nat) : Int)) (some (S.rf (i + 1))) := .inl ⟨_, Sum.inl ((i + 1 : Nat) : Int), .inr ⟨od, hcd⟩, rfl, (tkv_get hm.1 hmK).symm⟩
    have adne : (S.th (i + 1)).ad ≠ dt := fun z => R.dj dt _ (.th (i + 1)) hdt (by rw [← z]; exact adr_th hm)
    have pdne : (S.th (i + 1)).pd ≠ dt := fun z => R.dj dt _ (.pd (i + 1)) hdt (by rw [← z]; exact adr_pd hm)
    have hth := hcs _ _ (R.th hm) adne
    have hpd := hcs _ _ (R.pd hm) pdne
    have pdk : (S.th (i + 1)).pd ≠ kd := ne_of_none (R.pd hm) hkd
    have adk : (S.th (i + 1)).ad ≠ kd := ne_of_none (R.th hm) hkd
    have adpd : (S.th (i + 1)).ad ≠ (S.th (i + 1)).pd := ne_of (R.th hm) (R.pd hm) (by intro z; cases z)
    refine ⟨(S.th (i + 1)).pd, .dK (S.th (i + 1)).parts, hpd, trivial, fun od2 => ?_⟩
    have hdg2 : ∀ Hx : Hp, Hx dt = some (.frz od (.dK (tkv S Kn))) → DGet Hx dt (.int ((i + 1 : Nat) : Int)) (some (S.rf (i + 1))) := fun Hx h => .inl ⟨_, Sum.inl ((i + 1 : Nat) : Int), .inr ⟨od, h⟩, rfl, (tkv_get hm.1 hmK).symm⟩
    have hlen6 := I.plen' hm
    have hnd := I.pnd hm
    refine ⟨_, rfl, _, rfl, dt, _, rfl, hdg2 _ (by rw [upd_ne pdne.symm]; exact hcd), _, W.C, _, _, _, rfl, by rw [upd_ne adpd]; exact hth, T.cl, T.nParts, tf_parts _ _, _, od2, rfl, .inl ⟨_, upd_same, ?_⟩⟩
    refine for_it walk_keys (fun j σ Hd => ∃ (kn2 : List (Key × V)) (b : Option V), σ = [some (.ref dt), some (.ref kd), some (.int ((i + 1 : Nat) : Int)), b] ∧ Hd dt = some (.frz od (.dK (tkv S Kn))) ∧ Hd (S.th (i + 1)).pd = some (.frz od2 (.dK (S.th (i + 1)).parts)) ∧ Hd kd = some (.dK kn2) ∧
        (∀ b o, H b = some o → b ≠ dt → b ≠ (S.th (i + 1)).pd → Hd b = some o) ∧ kn2.length ≤ Kn + 6 * i + j ∧ (∀ n, KnHas S kn n → KnHas S kn2 n) ∧ (∀ kv, kv ∈ (S.th (i + 1)).parts.take j → ∀ n, n ∈ S.there → kv.2 = S.rf n → KnHas S kn2 n))
      ⟨kn, b, rfl, by rw [upd_ne pdne.symm]; exact hcd, upd_same, by rw [upd_ne pdk.symm]; exact hck, fun b o e n1 n2 => by rw [upd_ne n2]; exact hcs b o e n1, by omega, fun n h => h, fun kv hkv => by simp at hkv⟩
      (fun j σ Hd _ ⟨kn2, b, _, _, h2, _⟩ => h2) ?_ ?_
    · rintro j x σ Hd Hd2 hj ⟨kn2, b2, rfl, hdd, hdp, hdk, hds, hlen2, hQ1, hQ2⟩ ⟨e1, k1, v1, hget1, rfl⟩
      rw [e1]
      have hmem : (k1, v1) ∈ (S.th (i + 1)).parts := List.mem_of_getElem? hget1
      have hv1 : valV (S.th (i + 1)).parts k1 = some v1 := valV_nd hnd hmem
      have hthd := hds _ _ (R.th hm) adne adpd
      have hdg3 : DGet Hd (S.th (i + 1)).pd (kV k1) (some v1) := .inl ⟨_, k1, .inr ⟨od2, hdp⟩, rfl, hv1.symm⟩
      have htake : (S.th (i + 1)).parts.take (j + 1) = (S.th (i + 1)).parts.take j ++ [(k1, v1)] := by
        rw [List.take_succ, hget1]
        rfl
      obtain ⟨okv, hmT⟩ := I.part hm hmem
      refine ⟨_, rfl, _, rfl, dt, _, rfl, hdg2 _ hdd, _, W.C, _, _, _, rfl, hthd, T.cl, T.nParts, tf_parts _ _, _, rfl, _, _, rfl, hdg3, _, rfl, ?_⟩
      rcases okv with pl | ⟨q, hq, hqe⟩
      · refine .inl ⟨pl, _, rfl, ?_⟩
        refine iteF ?_
        refine ⟨kn2, _, rfl, hdd, hdp, hdk, hds, by omega, hQ1, fun kv hkv n hn e => ?_⟩
        rw [htake] at hkv
        rcases List.mem_append.mp hkv with z | z
        · exact hQ2 kv z n hn e
        · rw [List.mem_singleton.mp z] at e
          simp only at e pl
          rw [e] at pl
          exact pl.elim
      · simp only at hqe
        subst hqe
        have hqr := I.rng hq
        have aqne : (S.th q).ad ≠ dt := fun z => R.dj dt _ (.th q) hdt (by rw [← z]; exact adr_th hqr)
        have aqpd : (S.th q).ad ≠ (S.th (i + 1)).pd := ne_of (R.th hqr) (R.pd hm) (by intro z; cases z)
        have aqk : (S.th q).ad ≠ kd := ne_of_none (R.th hqr) hkd
        have hthq := hds _ _ (R.th hqr) aqne aqpd
        refine .inr ⟨_, _, _, rfl, hthq, _, rfl, ?_⟩
        refine iteT ?_
        refine ⟨_, rfl, _, rfl, dt, _, rfl, hdg2 _ hdd, _, W.C, _, _, _, rfl, hthd, T.cl, T.nParts, tf_parts _ _, _, rfl, _, _, rfl, hdg3, _, rfl, _, rfl, _, rfl, dt, _, rfl, hdg2 _ hdd, _, W.C, _, _, _, rfl, hthd, T.cl, T.nParts, tf_parts _ _, _, rfl, _, _, rfl, hdg3,
          _, W.C, _, _, _, rfl, hthq, T.cl, T.nNumber, tf_number _ _, kd, _, rfl, DPut.k (k := Sum.inl (q : Int)) hdk (small1000 (by omega)), ?_⟩
        have hlput := length_putK kn2 (Sum.inl (q : Int)) (S.rf q)
        refine ⟨putK kn2 (Sum.inl (q : Int)) (S.rf q), _, rfl, by rw [upd_ne nkd.symm]; exact hdd, by rw [upd_ne pdk]; exact hdp, upd_same, fun b o e n1 n2 => by rw [upd_ne (ne_of_none e hkd)]; exact hds b o e n1 n2, by omega, fun n h => (hQ1 n h).put, fun kv hkv n hn e => ?_⟩
        rw [htake] at hkv
        rcases List.mem_append.mp hkv with z | z
        · exact (hQ2 kv z n hn e).put
        · rw [List.mem_singleton.mp z] at e
          have : q = n := I.rf_inj hq hn e
          rw [← this]
          exact KnHas.new
    · rintro σ Hd ⟨kn2, b2, rfl, hdd, hdp, hdk, hds, hlen2, hQ1, hQ2⟩
      rw [List.take_length] at hQ2
      refine ⟨hdp, kn2, _, _, rfl, by rw [upd_ne pdne.symm]; exact hdd, by rw [upd_ne pdk.symm]; exact hdk, fun b o e n1 => ?_, by omega, fun n h1 h2 => hQ1 n (hP1 n h1 h2), fun m h1 h2 kv hkv n hn e => ?_⟩
      · by_cases z : b = (S.th (i + 1)).pd
        · rw [z, upd_same]
          rw [z, R.pd hm] at e
          exact e
        · rw [upd_ne z]
          exact hds b o e n1 z
      · by_cases z : m = i + 1
        · rw [z] at hkv
          exact hQ2 kv hkv n hn e
        · exact hQ1 n (hP2 m h1 (by omega) kv hkv n hn e)
  · rintro σ Hc ⟨kn, a, b, rfl, hcd, hck, hcs, hlen, hP1, hP2⟩
    rw [hlenT] at hP2
    refine ⟨hcd, _, rfl, ?_⟩
    refine k kd kn _ (fun b o e => ?_) hkd (by rw [upd_ne nkd]; exact hck) hP1 hP2
    by_cases z : b = dt
    · rw [z, upd_same]
      rw [z, hdtH] at e
      exact e
    · rw [upd_ne z]
      exact hcs b o e z
end
end Snk
namespace Snk
open PySem L2
/-! ## M. the law counts the holds -/
def hk (ms : List Nat) (c : Nat → Int) : List (Key × V) := ms.map fun n : Nat => ((Sum.inl (n : Int) : Key), V.int (c n))
theorem hk_get {ms : List Nat} (nd : ms.Nodup) (c : Nat → Int) {n : Nat} (h : n ∈ ms) : valV (hk ms c) (Sum.inl (n : Int)) = some (.int (c n)) :=
  valV_nd (inl_nodup nd _) (List.mem_map.mpr ⟨n, h, rfl⟩)
theorem hk_put {ms : List Nat} (c : Nat → Int) {n : Nat} (h : n ∈ ms) (z : Int) : putK (hk ms c) (Sum.inl (n : Int)) (.int z) = hk ms fun m => if m = n then z else c m := by
  have hm : (Sum.inl (n : Int) : Key) ∈ (hk ms c).map (·.1) := List.mem_map.mpr ⟨((Sum.inl (n : Int) : Key), V.int (c n)), List.mem_map.mpr ⟨n, h, rfl⟩, rfl⟩
  rw [putK_old _ hm]
  unfold hk
  rw [List.map_map]
  refine List.map_congr_left fun m _ => ?_
  show (if (Sum.inl (m : Int) : Key) = Sum.inl (n : Int) then ((Sum.inl (m : Int) : Key), V.int z) else ((Sum.inl (m : Int) : Key), V.int (c m))) = ((Sum.inl (m : Int) : Key), V.int (if m = n then z else c m))
  by_cases e : m = n
  · rw [if_pos (by rw [e]), if_pos e]
  · rw [if_neg fun q => e (by have := Sum.inl.inj q; omega), if_neg e]
theorem merge_nd : ∀ {more acc : List (Key × V)}, ((acc ++ more).map (·.1)).Nodup → mergeK acc more = acc ++ more
  | [], acc, _ => by
    show acc = acc ++ []
    rw [List.append_nil]
  | kv :: r, acc, h => by
    have hn : ¬ kv.1 ∈ acc.map (·.1) := fun z => by
      rw [List.map_append] at h
      exact (List.nodup_append.mp h).2.2 _ z _ (List.mem_map.mpr ⟨kv, List.mem_cons_self, rfl⟩) rfl
    have e : mergeK acc (kv :: r) = mergeK (putK acc kv.1 kv.2) r := rfl
    have e2 : acc ++ kv :: r = (acc ++ [kv]) ++ r := by rw [List.append_assoc]; rfl
    rw [e, putK_new _ (keys_not hn), e2]
    rw [e2] at h
    exact merge_nd h
theorem count_cast (l : List Nat) (n : Nat) : (l.map fun m : Nat => (m : Int)).count (n : Int) = l.count n := by
  induction l with
  | nil => rfl
  | cons a r ih =>
    rw [List.map_cons, List.count_cons, List.count_cons, ih]
    congr 1
    by_cases e : a = n
    · subst e; simp
    · have : ¬ ((a : Int) = (n : Int)) := by omega
      simp [e, this]
theorem paired_of {α β : Type} {R : α → β → Prop} : ∀ {l : List α} {m : List β}, l.length = m.length → (∀ (i : Nat) a b, l[i]? = some a → m[i]? = some b → R a b) → Paired R l m
  | [], [], _, _ => .nil
  | [], _ :: _, h, _ => by simp at h
  | _ :: _, [], h, _ => by simp at h
  | a :: l, b :: m, h, f => .cons (f 0 a b rfl rfl) (paired_of (by simpa using h) fun i x y hx hy => f (i + 1) x y (by simpa using hx) (by simpa using hy))
theorem natV_at {l : List Nat} {i : Nat} {x : V} (h : (natV l)[i]? = some x) : ∃ n, l[i]? = some n ∧ x = .int (n : Int) := by
  unfold natV at h
  rw [List.getElem?_map] at h
  cases e : l[i]? with
  | none => rw [e] at h; cases h
  | some n => rw [e] at h; exact ⟨n, rfl, (Option.some.inj h).symm⟩
theorem natV_len (l : List Nat) : (natV l).length = l.length := by unfold natV; rw [List.length_map]
section
variable {P : Program} {w : World} {K : PySem.W.Frag} {mg : Str → Option Value} {base : Heap} {C CH CE : Addr}
def sumV (S : Hs) (n : Nat) (T : List Nat) : Nat := (T.map fun m => vcnt (S.rf n) (S.th m).parts).sum
def spCounted (C CH CE : Addr) : Sp := fun vs H Q _ => ∃ (W : Wd) (S : Hs) (F : Hp) (Kn : Nat) (ext : List V) (kd : Addr) (kn : List (Key × V)) (tl : Addr) (ms : List Nat) (mi : Addr) (mine : List Nat), IsW W C CH CE ∧ vs = [.ref kd, .ref tl, .ref mi] ∧ Rep W S F H ∧
  Inv Kn S ext [] [] 0 ∧ Kn ≤ 12 ∧ (∀ r, adr W S r ≠ some kd) ∧ H kd = some (.dK kn) ∧ (∀ n, n ∈ S.there → KnHas S kn n) ∧ H tl = some (.lst (natV ms)) ∧ ms.Perm S.there ∧ H mi = some (.lst (natV mine)) ∧
  ∀ (hd : Addr) (c : Nat → Int) (H' : Hp), Same H H' → H hd = none → H' hd = some (.dK (hk ms c)) → (∀ n, n ∈ ms → c n = ((mine.count n + sumV S n ms : Nat) : Int)) → Q (.ref hd) H'
theorem scCounted : FnScope ["_law_known", "_law_there", "_law_mine", "_law_holds", "_law_n", "_law_key_here", "_law_value"] ["_law_known", "_law_there", "_law_mine"] (defScope lCounted) := ⟨rfl, rfl, rfl, by decide +kernel, rfl, by decide +kernel, by decide +kernel⟩
theorem ok_counted {f g : Addr} {fd gd : FuncData} (F : Fun K "_law_counted" "_law_counted" lCounted f fd) (T : Txt K mg C CH CE) (FG : Fun K "_law_thing" "_law_thing" lThing g gd) (bG : Binds K gd ["_law_value"] []) (mG : mg "_law_thing" = some (.ref g)) (md : mg "dict" = none) :
    FnOk P w K mg base CX0 2 f fd ["_law_known", "_law_there", "_law_mine"] (spCounted C CH CE) := by
  have G : FnOk P w K mg base CX0 1 g gd ["_law_value"] (spThingL C) := ok_thingL FG T
  refine F.ok scCounted (fun vs H Q E h => ?_) (fun cdv A outer s H vs Q E hr h => ?_)
  · obtain ⟨W, S, F, Kn, ext, kd, kn, tl, ms, mi, mine, _, rfl, _⟩ := h
    rfl
  obtain ⟨W, S, F, Kn, ext, kd, kn, tl, ms, mi, mine, ⟨rfl, rfl, rfl⟩, rfl, R, I, hK, nrk, hkd, hkn, htl, hperm, hmi, k⟩ := h
  have hu := hu_of hr
  have ndm : ms.Nodup := hperm.nodup_iff.mpr I.tnd
  have hlm : ms.length ≤ 48 := by
    have a1 := hperm.length_eq
    have a2 := I.tlen
    have a3 := I.many_le
    omega
  refine ⟨_, pss_cons (ps_set (i := 3) scCounted.nd rfl (Or.inl rfl) (pe_callTy (call_dictP rfl) (by rfl) md (by decide +kernel) (pa_cons
      (pe_lc (own := [("_law_n", 4)]) (g := gName 4) (tt := tYes) rfl scCounted.nd (pi_list (pv 1)) (blkOk_by (N := ["_law_known", "_law_there", "_law_mine", "_law_holds", "_law_n", "_law_key_here", "_law_value"]) (sc := defScope lCounted) (by decide +kernel)) (fun _ _ _ _ _ => pg_name (i := 4) scCounted.nd rfl (Or.inl rfl)) (fun _ _ _ _ _ => pts_nil)
        (fun _ _ _ _ _ => pe_tup (pa_cons (pv 4) (pa_cons (show PE _ _ (tBM K "list" (rCntI K) (tVar 2) (tCons (tVar 4) tNil)) from by exact pe_bm PySem.F.plainAttrs_list PySem.F.slot_list_count PySem.F.type_list_count mt_lcount (pv 2) (pa_cons (pv 4) pa_nil)) pa_nil)))) pa_nil)))
    (pss_cons (ps_for PassesOwn.never rfl (pi_list (pv 1)) (pg_name (i := 4) scCounted.nd rfl (Or.inl rfl))
      (pss_one (ps_lock (ps_for PassesOwn.never rfl (pi_keys (pe_fld (pe_dget hu (pv 0) (pv 4) (fun _ _ => rfl)) rfl)) (pg_name (i := 5) scCounted.nd rfl (Or.inl rfl))
        (pss_cons (ps_set (i := 6) scCounted.nd rfl (Or.inl rfl) (pe_dget hu (pe_fld (pe_dget hu (pv 0) (pv 4) (fun _ _ => rfl)) rfl) (pv 5) (fun _ _ => rfl)))
        (pss_one (ps_if (pt_val (pe_call G hr rfl mG FG.kp bG .nil pass0 (pa_cons (pv 6) pa_nil)))
          (pss_cons (ps_if (pt_cmp (pc_dnotin hu (pe_fld (pv 6) rfl) (pv 3))) pss_never pss_nil)
            (pss_one (ps_dput hu (pv 3) (pe_fld (pv 6) rfl) (pe_op op_add (pe_dget hu (pv 3) (pe_fld (pv 6) rfl) (fun _ _ => rfl)) pe_int) rfl))) pss_nil)))))))
    (pss_one (ps_ret (pv 3)))), ?_⟩
  refine ⟨_, rfl, tl, rfl, ⟨_, SqL.of htl⟩, fun D hD => ?_⟩
  refine lc_list (K := K) (a := tl) (xs := natV ms) (fun j H2 => Same H H2 ∧ ∃ ps : List Addr, ps.length = j ∧ H2 D = some (.lst (ps.map V.ref)) ∧ ∀ (i : Nat) p, ps[i]? = some p → ∃ n, ms[i]? = some n ∧ H2 p = some (.tup [.int (n : Int), .int ((mine.count n : Nat) : Int)]))
    ⟨same_new hD _, [], rfl, upd_same, fun i p h => by simp at h⟩ (fun j H2 _ h2 => SqL.of (h2.1 _ _ htl)) ?_ ?_
  · rintro j x H2 hj ⟨k2, ps, hlen, hacc, hps⟩
    obtain ⟨n, hn, rfl⟩ := natV_at hj
    have hjl : j < ms.length := (List.getElem?_eq_some_iff.mp hn).1
    refine ⟨rfl, ?_⟩
    refine tYes_of ?_
    refine iteT ?_
    refine ⟨_, rfl, _, rfl, .inl ⟨rfl, _, SqL.of (k2 _ _ hmi)⟩, _, rfl, mi, mine.map fun m : Nat => (m : Int), (n : Int), rfl, rfl, by rw [← natV_map]; exact SqL.of (k2 _ _ hmi), (by show 2 ≤ sizeLine; decide), fun p hp => ?_⟩
    rw [count_cast]
    have nDp : D ≠ p := ne_of_none hacc hp
    refine ⟨_, by rw [upd_ne nDp]; exact hacc, by rw [List.length_map, hlen]; exact small1000 (by omega), fun b o e => ?_, ps ++ [p], by rw [List.length_append, List.length_singleton, hlen], by rw [upd_same, List.map_append]; rfl, fun i q hq => ?_⟩
    · rw [upd_ne (ne_of_none e hD), upd_ne (ne_of_none (k2 _ _ e) hp)]
      exact k2 _ _ e
    · by_cases hi : i < ps.length
      · rw [List.getElem?_append_left hi] at hq
        obtain ⟨m, hm1, hm2⟩ := hps i q hq
        refine ⟨m, hm1, ?_⟩
        rw [upd_ne (ne_of hm2 hacc (by intro z; cases z)), upd_ne (ne_of_none hm2 hp)]
        exact hm2
      · rw [List.getElem?_append_right (by omega)] at hq
        have e0 : i - ps.length = 0 := by
          have := (List.getElem?_eq_some_iff.mp hq).1
          rw [List.length_singleton] at this
          omega
        rw [e0] at hq
        have : p = q := Option.some.inj hq
        subst this
        have ei : i = j := by omega
        refine ⟨n, by rw [ei]; exact hn, ?_⟩
        rw [upd_ne nDp.symm, upd_same]
  · rintro H2 ⟨k2, ps, hlen, hacc, hps⟩
    rw [natV_len] at hlen
    have hpair : Paired (fun p (kv : Key × V) => SqT K H2 p [kV kv.1, kv.2]) ps (hk ms fun n => ((mine.count n : Nat) : Int)) := by
      refine paired_of (by unfold hk; rw [List.length_map, hlen]) fun i p kv hp hkv => ?_
      obtain ⟨n, hn, htup⟩ := hps i p hp
      unfold hk at hkv
      rw [List.getElem?_map, hn] at hkv
      have : _ = kv := Option.some.inj hkv
      subst this
      exact SqT.of htup
    refine ⟨D, ps, _, rfl, SqL.of hacc, hpair, fun hd hhd => ?_⟩
    have emerge : mergeK [] (hk ms fun n => ((mine.count n : Nat) : Int)) = hk ms fun n => ((mine.count n : Nat) : Int) := by
      rw [merge_nd]
      · rfl
      · exact inl_nodup ndm _
    rw [emerge]
    have k3 : Same H (upd H2 hd (.dK (hk ms fun n => ((mine.count n : Nat) : Int)))) := k2.trans (same_new hhd _)
    have hhd0 : H hd = none := k2.free hhd
    refine ⟨_, rfl, tl, rfl, ⟨_, SqL.of (k3 _ _ htl)⟩, ?_⟩
    refine for_list (K := K) (a := tl) (xs := natV ms) (fun i σ Hc => ∃ (c : Nat → Int) (a b e : Option V), σ = [some (.ref kd), some (.ref tl), some (.ref mi), some (.ref hd), a, b, e] ∧ Same H Hc ∧ Hc hd = some (.dK (hk ms c)) ∧ ∀ n, n ∈ ms → c n = ((mine.count n + sumV S n (ms.take i) : Nat) : Int))
      ⟨_, none, none, none, rfl, k3, upd_same, fun n _ => by unfold sumV; rw [List.take_zero]; rfl⟩ (fun i σ Hc _ ⟨c, a, b, e, _, h1, _⟩ => SqL.of (h1 _ _ htl)) ?_ ?_
    · rintro i x σ Hc hi ⟨c, a, b, e, rfl, kc, hch, hc⟩
      obtain ⟨m, hm, rfl⟩ := natV_at hi
      have hmm : m ∈ ms := List.mem_of_getElem? hm
      have hmT : m ∈ S.there := hperm.mem_iff.mp hmm
      have hmr := I.rng hmT
      have htake : ms.take (i + 1) = ms.take i ++ [m] := by
        rw [List.take_succ, hm]
        rfl
      have kdpd : kd ≠ (S.th m).pd := fun z => nrk (.pd m) (by rw [z]; exact adr_pd hmr)
      have hdpd : hd ≠ (S.th m).pd := (ne_of_none (R.pd hmr) hhd0).symm
      have adpd : (S.th m).ad ≠ (S.th m).pd := ne_of (R.th hmr) (R.pd hmr) (by intro z; cases z)
      have hlen6 := I.plen hmT
      have hnd := (I.pk m hmT).1
      refine ⟨(S.th m).pd, .dK (S.th m).parts, kc _ _ (R.pd hmr), trivial, fun od => ?_⟩
      refine ⟨_, rfl, _, rfl, kd, _, rfl, .inl ⟨kn, Sum.inl (m : Int), .inl (by rw [upd_ne kdpd]; exact kc _ _ hkd), rfl, (hkn m hmT).symm⟩, _, W.C, _, _, _, rfl, by rw [upd_ne adpd]; exact kc _ _ (R.th hmr), T.cl, T.nParts, tf_parts _ _, _, od, rfl, .inl ⟨_, upd_same, ?_⟩⟩
      refine for_it walk_keys (fun j σ Hd => ∃ (c2 : Nat → Int) (b e : Option V), σ = [some (.ref kd), some (.ref tl), some (.ref mi), some (.ref hd), some (.int (m : Int)), b, e] ∧ Hd (S.th m).pd = some (.frz od (.dK (S.th m).parts)) ∧ (∀ b o, H b = some o → b ≠ (S.th m).pd → Hd b = some o) ∧ Hd hd = some (.dK (hk ms c2)) ∧
          ∀ n, n ∈ ms → c2 n = ((mine.count n + sumV S n (ms.take i) + vcnt (S.rf n) ((S.th m).parts.take j) : Nat) : Int))
        ⟨c, b, e, rfl, upd_same, fun b o e n1 => by rw [upd_ne n1]; exact kc b o e, by rw [upd_ne hdpd]; exact hch, fun n hn => by rw [hc n hn]; rfl⟩ (fun j σ Hd _ ⟨c2, b, e, _, h2, _⟩ => h2) ?_ ?_
      · rintro j x σ Hd Hd2 hj ⟨c2, b2, e2, rfl, hdp, hds, hdh, hc2⟩ ⟨e1, k1, v1, hget1, rfl⟩
        rw [e1]
        have hmem : (k1, v1) ∈ (S.th m).parts := List.mem_of_getElem? hget1
        have hv1 : valV (S.th m).parts k1 = some v1 := valV_nd hnd hmem
        have htake2 : (S.th m).parts.take (j + 1) = (S.th m).parts.take j ++ [(k1, v1)] := by
          rw [List.take_succ, hget1]
          rfl
        refine ⟨_, rfl, _, rfl, kd, _, rfl, .inl ⟨kn, Sum.inl (m : Int), .inl (hds _ _ hkd kdpd), rfl, (hkn m hmT).symm⟩, _, W.C, _, _, _, rfl, hds _ _ (R.th hmr) adpd, T.cl, T.nParts, tf_parts _ _, _, rfl, _, _, rfl, .inl ⟨_, k1, .inr ⟨od, hdp⟩, rfl, hv1.symm⟩, ?_⟩
        refine ⟨_, rfl, v1, rfl, ?_⟩
        rcases I.pv m hmT _ hmem with pl | ⟨q, hq, hqe⟩
        · refine .inl ⟨pl, _, rfl, ?_⟩
          refine iteF ?_
          refine ⟨c2, _, _, rfl, hdp, hds, hdh, fun n hn => ?_⟩
          rw [hc2 n hn, htake2, vcnt_app, vcnt_cons, vcnt_nil]
          have : ¬ v1 = S.rf n := fun z => by
            simp only at pl
            rw [z] at pl
            exact pl.elim
          simp [this]
        · simp only at hqe
          subst hqe
          have hqr := I.rng hq
          have hqm : q ∈ ms := hperm.mem_iff.mpr hq
          have aqpd : (S.th q).ad ≠ (S.th m).pd := ne_of (R.th hqr) (R.pd hmr) (by intro z; cases z)
          have hthq := hds _ _ (R.th hqr) aqpd
          have hg := hk_get ndm c2 hqm
          refine .inr ⟨_, _, _, rfl, hthq, _, rfl, ?_⟩
          refine iteT ?_
          refine ⟨_, rfl, _, W.C, _, _, _, rfl, hthq, T.cl, T.nNumber, tf_number _ _, _, rfl, hd, _, rfl, DGet.k (k := Sum.inl (q : Int)) hdh, _, rfl, ?_⟩
          rw [hg]
          refine iteF ?_
          refine ⟨_, rfl, _, rfl, _, W.C, _, _, _, rfl, hthq, T.cl, T.nNumber, tf_number _ _, hd, _, rfl, .inl ⟨_, Sum.inl (q : Int), .inl hdh, rfl, hg.symm⟩, _, _, rfl, rfl, _, rfl, _, rfl, _, W.C, _, _, _, rfl, hthq, T.cl, T.nNumber, tf_number _ _, hd, _, rfl, DPut.k (k := Sum.inl (q : Int)) hdh ?_, ?_⟩
          · unfold hk
            rw [List.length_map]
            exact small1000 (by omega)
          · rw [hk_put c2 hqm]
            refine ⟨_, _, _, rfl, by rw [upd_ne hdpd.symm]; exact hdp, fun b o e n1 => by rw [upd_ne (ne_of_none e hhd0)]; exact hds b o e n1, upd_same, fun n hn => ?_⟩
            rw [htake2, vcnt_app, vcnt_cons, vcnt_nil]
            by_cases z : n = q
            · subst z
              rw [if_pos rfl, if_pos rfl, hc2 n hn]
              omega
            · have : ¬ S.rf q = S.rf n := fun y => z (I.rf_inj (hperm.mem_iff.mp hn) hq y.symm)
              rw [if_neg z, if_neg this, hc2 n hn]
              rfl
      · rintro σ Hd ⟨c2, b2, e2, rfl, hdp, hds, hdh, hc2⟩
        rw [List.take_length] at hc2
        refine ⟨hdp, c2, _, _, _, rfl, fun b o e => ?_, by rw [upd_ne hdpd]; exact hdh, fun n hn => ?_⟩
        · by_cases z : b = (S.th m).pd
          · rw [z, upd_same]
            rw [z, R.pd hmr] at e
            exact e
          · rw [upd_ne z]
            exact hds b o e z
        · rw [hc2 n hn, htake]
          unfold sumV
          rw [List.map_append, List.sum_append]
          show _ = ((mine.count n + (_ + (vcnt (S.rf n) (S.th m).parts + 0)) : Nat) : Int)
          omega
    · rintro σ Hc ⟨c, a, b, e, rfl, kc, hch, hc⟩
      rw [natV_len, List.take_length] at hc
      refine ⟨_, rfl, ?_⟩
      exact k hd c Hc kc hhd0 hch hc
end
end Snk
namespace Snk
open PySem L2
/-! ## N. what the law asks behind each deed -/
theorem lay_ints : ∀ ns : List Int, PyData.canLayAll0 (ns.map PyData.int) = true
  | [] => by simp [PyData.canLayAll0]
  | n :: r => by
    rw [List.map_cons]
    simp only [PyData.canLayAll0, PyData.canLay0, lay_ints r, Bool.and_self]
theorem depth_ints : ∀ ns : List Int, PyData.depthAll (ns.map PyData.int) = 0
  | [] => by simp [PyData.depthAll]
  | n :: r => by
    rw [List.map_cons]
    simp only [PyData.depthAll, PyData.depth, depth_ints r, Nat.max_self]
theorem shaped_ints (ns : List Int) : SeqAt.shaped (.list (ns.map PyData.int)) = true := by
  unfold SeqAt.shaped
  rw [Bool.and_eq_true]
  refine ⟨?_, decide_eq_true ?_⟩
  · simp only [PyData.canLay0, lay_ints]
  · simp only [PyData.depth, depth_ints]
    decide
theorem eqv_ints (ns : List Int) : PyData.eqv (.list (ns.map PyData.int)) (.list (ns.map PyData.int)) = true :=
  SeqAt.eqv_refl _ (by simp only [PyData.canLay0, lay_ints])
theorem dp_ints {K : PySem.W.Frag} {H : Hp} : ∀ ns : List Int, DpAll K H (ns.map V.int) (ns.map PyData.int)
  | [] => .nil
  | n :: r => .cons (.int n) (dp_ints r)
theorem dp_list {K : PySem.W.Frag} {H : Hp} {a : Addr} {ns : List Int} (h : H a = some (.lst (ns.map V.int))) : Dp K H (.ref a) (.list (ns.map PyData.int)) := .lst (SqL.of h) (dp_ints ns)
theorem natV_app (a b : List Nat) : natV a ++ natV b = natV (a ++ b) := by
  unfold natV
  rw [List.map_append]
theorem natV_flat (l : List Nat) : (natV l).all flatV = true := by
  unfold natV
  rw [List.all_map]
  exact List.all_eq_true.mpr fun n _ => rfl
theorem inV_natV (n : Nat) (l : List Nat) : inV (.int (n : Int)) (natV l) = decide (n ∈ l) := by
  unfold inV natV
  rw [List.any_map]
  by_cases h : n ∈ l
  · rw [decide_eq_true h]
    exact List.any_eq_true.mpr ⟨n, h, by show ((n : Int) == (n : Int)) = true; simp⟩
  · rw [decide_eq_false h]
    refine Bool.eq_false_iff.mpr fun z => ?_
    obtain ⟨m, hm, e⟩ := List.any_eq_true.mp z
    have e : ((m : Int) == (n : Int)) = true := e
    have : m = n := by
      have := eq_of_beq e
      omega
    exact h (this ▸ hm)
theorem rg_natV (m : Nat) : rgV 1 ((m : Int) + 1) = (((List.range m).map fun i : Nat => ((1 + i : Nat) : Int)).map V.int) := by
  unfold rgV
  have : ((m : Int) + 1 - 1).toNat = m := by omega
  rw [this, List.map_map]
  refine List.map_congr_left fun i _ => ?_
  show V.int (1 + (i : Int)) = V.int ((1 + i : Nat) : Int)
  congr 1
theorem range1_sorted (m : Nat) : ((List.range m).map fun i : Nat => ((1 + i : Nat) : Int)).Pairwise (· ≤ ·) := by
  rw [List.pairwise_map]
  exact List.pairwise_lt_range.imp fun {a b} h => by omega
theorem range1_perm {l : List Nat} {m : Nat} (nd : l.Nodup) (h : ∀ n, n ∈ l ↔ 1 ≤ n ∧ n ≤ m) : (l.map fun n : Nat => (n : Int)).Perm ((List.range m).map fun i : Nat => ((1 + i : Nat) : Int)) := by
  have e : (List.range m).map (fun i : Nat => ((1 + i : Nat) : Int)) = ((List.range m).map fun i : Nat => 1 + i).map fun n : Nat => (n : Int) := by
    rw [List.map_map]
    rfl
  rw [e]
  refine List.Perm.map _ ?_
  refine (List.perm_ext_iff_of_nodup nd ?_).mpr fun n => ?_
  · refine List.pairwise_map.mpr (List.Pairwise.imp ?_ List.nodup_range)
    intro a b n e
    exact n (by omega)
  · rw [h n, List.mem_map]
    constructor
    · rintro ⟨a, b⟩
      exact ⟨n - 1, List.mem_range.mpr (by omega), by omega⟩
    · rintro ⟨i, hi, rfl⟩
      have := List.mem_range.mp hi
      omega
section
variable {Kn : Nat} {S : Hs} {mine : List Nat}
theorem mine_in (I : Inv Kn S (mine.map S.rf) [] [] 0) (hm : ∀ m, m ∈ mine → 1 ≤ m ∧ m ≤ Kn) {m : Nat} (h : m ∈ mine) : m ∈ S.there := by
  rcases I.ev (S.rf m) (List.mem_map.mpr ⟨m, h, rfl⟩) with z | ⟨n, hn, e⟩
  · exact z.elim
  · obtain ⟨a, b⟩ := hm m h
    obtain ⟨c, d⟩ := I.rng hn
    have : m = n := I.ij m n a (Nat.le_trans b I.km) c d (V.ref.inj e)
    rw [this]
    exact hn
theorem count_mine (I : Inv Kn S (mine.map S.rf) [] [] 0) (hm : ∀ m, m ∈ mine → 1 ≤ m ∧ m ≤ Kn) {n : Nat} (hn : n ∈ S.there) : (mine.map S.rf).count (S.rf n) = mine.count n := by
  have hin : ∀ m, m ∈ mine → m ∈ S.there := fun m h => mine_in I hm h
  clear hm
  induction mine with
  | nil => rfl
  | cons a r ih =>
    have key : ∀ l : List Nat, (∀ m, m ∈ l → m ∈ S.there) → (l.map S.rf).count (S.rf n) = l.count n := by
      intro l
      induction l with
      | nil => intro _; rfl
      | cons b t ih2 =>
        intro hl
        rw [List.map_cons, List.count_cons, List.count_cons, ih2 fun m h => hl m (List.mem_cons_of_mem _ h)]
        congr 1
        by_cases e : b = n
        · subst e; simp
        · have : ¬ S.rf b = S.rf n := fun z => e (I.rf_inj (hl b List.mem_cons_self) hn z)
          simp [e, this]
    exact key (a :: r) hin
theorem sum_held (S : Hs) (n : Nat) {ms : List Nat} (h : ms.Perm S.there) : sumV S n ms = S.held (S.rf n) S.there := (h.map _).sum_nat
theorem count_is (I : Inv Kn S (mine.map S.rf) [] [] 0) (hm : ∀ m, m ∈ mine → 1 ≤ m ∧ m ≤ Kn) {ms : List Nat} (h : ms.Perm S.there) {n : Nat} (hn : n ∈ S.there) : (S.th n).count = ((mine.count n + sumV S n ms : Nat) : Int) := by
  rw [I.cnt n hn, count_mine I hm hn, sum_held S n h]
  rfl
theorem count_pos (I : Inv Kn S (mine.map S.rf) [] [] 0) (hr : S.row = none) {n : Nat} (hn : n ∈ S.there) : 0 < (S.th n).count := by
  have a := I.pos hn
  have b : (S.th n).count ≠ 0 := fun z => by
    rcases I.zr n hn z with q | q
    · have e : S.rl = [] := by unfold Hs.rl; rw [hr]
      rw [e] at q
      cases q
    · have := (I.rng hn).1
      omega
  omega
theorem known_all (I : Inv Kn S (mine.map S.rf) [] [] 0) (hr : S.row = none) (hm : ∀ m, m ∈ mine → 1 ≤ m ∧ m ≤ Kn) {kn : List (Key × V)} (h1 : ∀ n, 1 ≤ n → n ≤ Kn → KnHas S kn n)
    (h2 : ∀ m, 1 ≤ m → m ≤ Kn → ∀ kv, kv ∈ (S.th m).parts → ∀ n, n ∈ S.there → kv.2 = S.rf n → KnHas S kn n) {n : Nat} (hn : n ∈ S.there) : KnHas S kn n := by
  obtain ⟨a, b⟩ := I.rng hn
  by_cases c : n ≤ Kn
  · exact h1 n a c
  · have p := count_pos I hr hn
    rw [I.cnt n hn, count_mine I hm hn] at p
    have z : mine.count n = 0 := List.count_eq_zero.mpr fun q => c (hm n q).2
    rw [z] at p
    have p2 : 0 < S.held (S.rf n) S.there := by
      have : ([] : List Nat).count n = 0 := rfl
      omega
    obtain ⟨m, hmT, hpos⟩ := sum_pos (T := S.there) (f := fun m => vcnt (S.rf n) (S.th m).parts) p2
    obtain ⟨kv, hkv, e⟩ := vcnt_mem.mp hpos
    have hmr := I.rng hmT
    have hmK : m ≤ Kn := by
      apply Classical.byContradiction
      intro q
      rw [I.mp m (by omega) hmr.2] at hkv
      cases hkv
    exact h2 m hmr.1 hmK kv hkv n hn e
end
section
variable {P : Program} {w : World} {K : PySem.W.Frag} {mg : Str → Option Value} {base : Heap} {C CH CE : Addr}
def spStands (C CH CE : Addr) : Sp := fun vs H Q _ => ∃ (W : Wd) (S : Hs) (F : Hp) (Kn : Nat) (dt mi : Addr) (mine : List Nat), IsW W C CH CE ∧ vs = [.ref W.h, .ref W.e, .ref dt, .ref mi] ∧ Rep W S F H ∧ Inv Kn S (mine.map S.rf) [] [] 0 ∧ S.row = none ∧ Kn ≤ 12 ∧
  F dt = some (.dK (tkv S Kn)) ∧ F mi = some (.lst (natV mine)) ∧ (∀ m, m ∈ mine → 1 ≤ m ∧ m ≤ Kn) ∧ ∀ H', Same H H' → Q (.bl true) H'
theorem scStands : FnScope ["_law_hall", "_law_ender", "_law_things", "_law_mine", "_law_known", "_law_there", "_law_left", "_law_holds", "_law_ends", "_law_n"] ["_law_hall", "_law_ender", "_law_things", "_law_mine"] (defScope lStands) := ⟨rfl, rfl, rfl, by decide +kernel, rfl, by decide +kernel, by decide +kernel⟩
abbrev nStands : List Str := ["_law_hall", "_law_ender", "_law_things", "_law_mine", "_law_known", "_law_there", "_law_left", "_law_holds", "_law_ends", "_law_n"]
theorem ok_stands {f fk fc ft fg fa : Addr} {fd dk dc dt' dg da : FuncData} (F : Fun K "_law_stands" "_law_stands" lStands f fd) (T : Txt K mg C CH CE)
    (GK : FnOk P w K mg base CX0 2 fk dk ["_law_things"] (spKnown C CH CE)) (bK : Binds K dk ["_law_things"] []) (kK : PySem.W.keepIn K (.ref fk) = true) (mK : mg "_law_all_known" = some (.ref fk))
    (GC : FnOk P w K mg base CX0 2 fc dc ["_law_known", "_law_there", "_law_mine"] (spCounted C CH CE)) (bC : Binds K dc ["_law_known", "_law_there", "_law_mine"] []) (kC : PySem.W.keepIn K (.ref fc) = true) (mC : mg "_law_counted" = some (.ref fc))
    (FT : Fun K "things" "Hall.things" sThings ft dt') (bT : Binds K dt' ["self"] []) (mT : Meth K CH "things" ft)
    (FG : Fun K "gone" "Hall.gone" sGone fg dg) (bG : Binds K dg ["self"] []) (mG : Meth K CH "gone" fg)
    (FA : Fun K "asked" "Ends.asked" sAsked fa da) (bA : Binds K da ["self"] []) (mA : Meth K CE "asked" fa) (mr : mg "range" = none) (ms0 : mg "set" = none)
    (hf_t : ∀ (W : Wd) (S : Hs), (hf W S).lookup ("things" : Str) = none) (hf_g : ∀ (W : Wd) (S : Hs), (hf W S).lookup ("gone" : Str) = none) (ef_a : ∀ W : Wd, (ef W).lookup ("asked" : Str) = none) :
    FnOk P w K mg base CX0 3 f fd ["_law_hall", "_law_ender", "_law_things", "_law_mine"] (spStands C CH CE) := by
  have GT : FnOk P w K mg base CX0 1 ft dt' ["self"] (spThings C CH CE) := ok_things FT T
  have GG : FnOk P w K mg base CX0 1 fg dg ["self"] (spGone C CH CE) := ok_gone FG T
  have GA : FnOk P w K mg base CX0 1 fa da ["self"] (spAsked C CH CE) := ok_asked FA T
  refine F.ok scStands (fun vs H Q E h => ?_) (fun cdv A outer s H vs Q E hr h => ?_)
  · obtain ⟨W, S, F, Kn, dt, mi, mine, _, rfl, _⟩ := h
    rfl
  obtain ⟨W, S, F, Kn, dt, mi, mine, ⟨rfl, rfl, rfl⟩, rfl, R, I, hrow, hK, hdt, hmi, hmine, k⟩ := h
  have hu := hu_of hr
  have hu0 : _ < cLine := Nat.lt_of_succ_lt hu
  have hr1 : Room 1 _ := hr.mono (by decide)
  have hu64 := hr.units
  refine ⟨_, pss_cons (ps_set (i := 4) scStands.nd rfl (Or.inr rfl) (pe_call GK hr rfl mK kK bK .nil pass0 (pa_cons (pv 2) pa_nil)))
    (pss_cons (ps_set (i := 5) scStands.nd rfl (Or.inl rfl) (pe_meth0 (pv 0) T.clH mT GT hr1 bT .nil pass0))
    (pss_cons (ps_set (i := 6) scStands.nd rfl (Or.inr rfl) (pe_meth0 (pv 0) T.clH mG GG hr1 bG .nil pass0))
    (pss_cons (ps_if (pt_cmpR (op_neD hu64) (pe_callB cr_sortedI (by rfl) T.sorted (by decide +kernel) (pa_cons (pe_op op_cat (pv 5) (pv 6)) pa_nil))
        (pe_listRg rfl (by rfl) T.list (prg_2 (by rfl) mr pe_int (pe_op op_add (pe_op op_add (pe_callB call_len_seq (by rfl) T.len PySem.boot_len (pa_cons (pv 5) pa_nil)) (pe_callB call_len_seq (by rfl) T.len PySem.boot_len (pa_cons (pv 6) pa_nil))) pe_int))) (nomark _)) pss_never pss_nil)
    (pss_cons (ps_if (pt_cmpR op_gt (pe_callB call_len_seq (by rfl) T.len PySem.boot_len (pa_cons
        (pe_lc (own := [("_law_n", 9)]) (g := gName 9) rfl scStands.nd (pi_list (pv 5)) (blkOk_by (N := nStands) (sc := defScope lStands) (by decide +kernel)) (fun _ _ _ _ _ => pg_name (i := 9) scStands.nd rfl (Or.inl rfl)) (fun _ _ _ _ _ => pts_one (pt_cmp (pc_dnotin hu (pv 9) (pv 4)))) (fun _ _ _ _ _ => pv 9)) pa_nil)) pe_int (nomark _)) pss_never pss_nil)
    (pss_cons (ps_set (i := 7) scStands.nd rfl (Or.inr rfl) (pe_call GC hr rfl mC kC bC .nil pass0 (pa_cons (pv 4) (pa_cons (pv 5) (pa_cons (pv 3) pa_nil)))))
    (pss_cons (ps_if (pt_cmpR (op_neD hu64) (pe_callB (call_sortedDI rfl) (by rfl) T.sorted (by decide +kernel) (pa_cons (pv 7) pa_nil)) (pv 5) (nomark _)) pss_never pss_nil)
    (pss_cons (ps_if (pt_not (pt_val (pe_callB (cr_all rfl) (by rfl) T.all (by decide +kernel) (pa_cons
        (pe_lc (own := [("_law_n", 9)]) (g := gName 9) (tt := tYes) rfl scStands.nd (pi_list (pv 5)) (blkOk_by (N := nStands) (sc := defScope lStands) (by decide +kernel)) (fun _ _ _ _ _ => pg_name (i := 9) scStands.nd rfl (Or.inl rfl)) (fun _ _ _ _ _ => pts_nil)
          (fun _ _ _ _ _ => pe_and (pe_cmpR op_gt (pe_dget hu (pv 7) (pv 9) (fun _ _ => rfl)) pe_int (nomark _)) (pe_one (pe_cmpR op_eq (show PE _ _ (tFld K (tDGet (tVar 4) (tVar 9)) "count") from by exact pe_fld (pe_dget hu (pv 4) (pv 9) (fun _ _ => rfl)) rfl) (pe_dget hu (pv 7) (pv 9) (fun _ _ => rfl)) (nomark _))))) pa_nil)))) pss_never pss_nil)
    (pss_cons (ps_set (i := 8) scStands.nd rfl (Or.inr rfl) (pe_meth0 (pv 1) T.clE mA GA hr1 bA .nil pass0))
    (pss_cons (ps_if (PW.pt (pw_or (pt_cmpR op_ne (RZ.pe_lenSetI (by rfl) T.len (by rfl) ms0 (pv 8)) (pe_callB call_len_seq (by rfl) T.len PySem.boot_len (pa_cons (pv 8) pa_nil)) (nomark _))
        (pw_or1 (pt_cmpR op_gt (pe_callB call_len_seq (by rfl) T.len PySem.boot_len (pa_cons
          (pe_lc (own := [("_law_n", 9)]) (g := gName 9) rfl scStands.nd (pi_list (pv 6)) (blkOk_by (N := nStands) (sc := defScope lStands) (by decide +kernel)) (fun _ _ _ _ _ => pg_name (i := 9) scStands.nd rfl (Or.inl rfl))
            (fun _ _ _ _ _ => pts_one (pt_cmpR (show OpR _ (compareOp .NotIn) (rIn K true) from op_notIn_seq) (pv 9) (pv 8) rfl)) (fun _ _ _ _ _ => pv 9)) pa_nil)) pe_int (nomark _))))) pss_never pss_nil)
    (pss_one (ps_ret (pe_callB (cr_all rfl) (by rfl) T.all (by decide +kernel) (pa_cons (pe_lock
        (pe_lc (own := [("_law_n", 9)]) (g := gName 9) rfl scStands.nd (pi_keys (pv 2)) (blkOk_by (N := nStands) (sc := defScope lStands) (by decide +kernel)) (fun _ _ _ _ _ => pg_name (i := 9) scStands.nd rfl (Or.inl rfl))
          (fun _ _ _ _ _ => pts_one (pt_cmpR (show OpR _ (compareOp .In) (rIn K false) from op_in_seq) (pv 9) (pv 6) rfl))
          (fun _ _ _ _ _ => pe_cmpR (op_eq_dictA hu0) (show PE _ _ (tFld K (tDGet (tVar 2) (tVar 9)) "parts") from by exact pe_fld (pe_dget hu (pv 2) (pv 9) (fun _ _ => rfl)) rfl) pe_dnewK (nomark _)))) pa_nil))))))))))))), ?_⟩
  -- known
  refine ⟨_, rfl, W, S, F, Kn, _, dt, ⟨rfl, rfl, rfl⟩, rfl, R, I, hK, hdt, fun kd kn H1 k1 hkd0 hkd hkn1 hkn2 => ?_⟩
  have hkn : ∀ n, n ∈ S.there → KnHas S kn n := fun n hn => known_all I hrow hmine hkn1 hkn2 hn
  have R1 : Rep W S F H1 := R.same k1
  have hmany : S.many ≤ 48 := by
    have := I.many_le
    omega
  have hT48 : S.there.length < 64 := by
    have := I.tlen
    omega
  -- there, left
  refine ⟨_, rfl, _, _, _, rfl, R1.hall, hf_t _ _, W, S, F, ⟨rfl, rfl, rfl⟩, rfl, R1, hT48, fun ms tl hperm hsort htl => ?_⟩
  have R2 := R1.new htl (.lst (natV ms))
  refine ⟨_, rfl, _, _, _, rfl, R2.hall, hf_g _ _, W, S, F, ⟨rfl, rfl, rfl⟩, rfl, R2, fun lf hlf => ?_⟩
  have R3 := R2.new hlf (.lst (natV S.left))
  have ntl : tl ≠ lf := ne_of_none upd_same hlf
  have k3 : Same H (upd (upd H1 tl (.lst (natV ms))) lf (.lst (natV S.left))) := k1.trans ((same_new htl _).trans (same_new hlf _))
  have hkd3 : (upd (upd H1 tl (.lst (natV ms))) lf (.lst (natV S.left))) kd = some (.dK kn) := same_new hlf _ _ _ (same_new htl _ _ _ hkd)
  have htl3 : (upd (upd H1 tl (.lst (natV ms))) lf (.lst (natV S.left))) tl = some (.lst (natV ms)) := by rw [upd_ne ntl, upd_same]
  have hlf3 : (upd (upd H1 tl (.lst (natV ms))) lf (.lst (natV S.left))) lf = some (.lst (natV S.left)) := upd_same
  generalize (upd (upd H1 tl (.lst (natV ms))) lf (.lst (natV S.left))) = H3 at R3 k3 hkd3 htl3 hlf3 ⊢
  have hlen1 := hperm.length_eq
  have hlf48 : S.left.length ≤ 48 := by
    have := I.llen
    omega
  -- sorted(there + left) != list(range(..))
  refine ⟨_, rfl, _, rfl, tl, lf, _, _, rfl, rfl, htl3, hlf3, by rw [natV_len, natV_len]; exact Nat.le_of_lt (small1000 (by omega)), fun p hp => ?_⟩
  rw [natV_app]
  refine ⟨p, _, rfl, by rw [natV_map]; exact SqL.of upd_same, fun ns q hpq hsq hq => ?_⟩
  have npq : p ≠ q := ne_of_none upd_same hq
  have htlP : ∀ o, (upd (upd H3 p o) q (.lst (ns.map V.int))) tl = some (.lst (natV ms)) := fun o => by
    rw [upd_ne (ne_of_none (same_new hp (.lst (natV (ms ++ S.left))) _ _ htl3) hq), upd_ne (ne_of_none htl3 hp)]
    exact htl3
  have hlfP : ∀ o, (upd (upd H3 p o) q (.lst (ns.map V.int))) lf = some (.lst (natV S.left)) := fun o => by
    rw [upd_ne (ne_of_none (same_new hp (.lst (natV (ms ++ S.left))) _ _ hlf3) hq), upd_ne (ne_of_none hlf3 hp)]
    exact hlf3
  refine ⟨_, rfl, tl, _, rfl, .inl (SqL.of (htlP _)), _, rfl, lf, _, rfl, .inl (SqL.of (hlfP _)), _, _, rfl, rfl, _, _, rfl, rfl, _, _, rfl, rfl, ?_, fun r hrn => ?_⟩
  · rw [natV_len, natV_len]
    exact RgOk.of_le (by decide) (by omega) (by decide) (by omega)
  have hsum : ((natV ms).length : Int) + ((natV S.left).length : Int) = ((S.many : Nat) : Int) := by
    rw [natV_len, natV_len]
    have e1 : (S.there ++ S.left).length = S.many := by
      have q1 := (range1_perm I.nd I.mem).length_eq
      rw [List.length_map, List.length_map, List.length_range] at q1
      exact q1
    rw [List.length_append] at e1
    omega
  rw [hsum, rg_natV] at *
  have hns : ns = (List.range S.many).map fun i : Nat => ((1 + i : Nat) : Int) := by
    refine PySem.W.ksm_same ?_ hsq (range1_sorted _)
    refine hpq.trans ?_
    have nd2 : (ms ++ S.left).Nodup := (hperm.append_right S.left).nodup_iff.mpr I.nd
    exact range1_perm nd2 fun n => by
      rw [(hperm.append_right S.left).mem_iff]
      exact I.mem n
  have nqr : q ≠ r := ne_of_none upd_same hrn
  refine ⟨_, _, dp_list (ns := ns) (by rw [upd_ne nqr, upd_same]), dp_list upd_same, shaped_ints _, shaped_ints _, _, rfl, ?_⟩
  rw [hns, eqv_ints]
  refine iteF ?_
  rw [hns] at hrn
  have k4 : Same H3 (upd (upd (upd H3 p (.lst (natV (ms ++ S.left)))) q (.lst (((List.range S.many).map fun i : Nat => ((1 + i : Nat) : Int)).map V.int))) r (.lst (((List.range S.many).map fun i : Nat => ((1 + i : Nat) : Int)).map V.int))) :=
    (same_new hp _).trans ((same_new hq _).trans (same_new hrn _))
  generalize upd (upd (upd H3 p (.lst (natV (ms ++ S.left)))) q (.lst (((List.range S.many).map fun i : Nat => ((1 + i : Nat) : Int)).map V.int))) r (.lst (((List.range S.many).map fun i : Nat => ((1 + i : Nat) : Int)).map V.int)) = H4 at k4 ⊢
  have ndm : ms.Nodup := hperm.nodup_iff.mpr I.tnd
  -- len([n for n in there if n not in known]) > 0
  refine ⟨_, rfl, tl, rfl, ⟨_, SqL.of (k4 _ _ htl3)⟩, fun D5 hD5 => ?_⟩
  refine lc_list (K := K) (a := tl) (xs := natV ms) (fun j H2 => Same H4 H2 ∧ H2 D5 = some (.lst [])) ⟨same_new hD5 _, upd_same⟩ (fun j H2 _ h2 => SqL.of (h2.1 _ _ (k4 _ _ htl3))) ?_ ?_
  · rintro j x H2 hj ⟨k2, hacc⟩
    obtain ⟨n, hn, rfl⟩ := natV_at hj
    have hnT : n ∈ S.there := hperm.mem_iff.mp (List.mem_of_getElem? hn)
    refine ⟨rfl, ?_⟩
    refine ⟨_, rfl, _, rfl, kd, _, rfl, .inl ⟨kn, Sum.inl (n : Int), .inl (k2 _ _ (k4 _ _ hkd3)), rfl, (hkn n hnT).symm⟩, _, rfl, ?_⟩
    refine iteF ?_
    exact ⟨k2, hacc⟩
  rintro H5 ⟨k5, hacc5⟩
  refine ⟨D5, _, rfl, .inl (SqL.of hacc5), _, _, rfl, rfl, _, rfl, ?_⟩
  refine iteF ?_
  have k35 : Same H3 H5 := k4.trans k5
  have R5 : Rep W S F H5 := R3.same k35
  have kH5 : Same H H5 := k3.trans k35
  -- holds
  refine ⟨_, rfl, _, rfl, _, rfl, W, S, F, Kn, _, kd, kn, tl, ms, mi, mine, ⟨rfl, rfl, rfl⟩, rfl, R5, I, hK, R.free hkd0, k35 _ _ hkd3, hkn, k35 _ _ htl3, hperm, R5.fr _ _ hmi, fun hd c H6 k6 hhd0 hhd hc => ?_⟩
  have k36 : Same H3 H6 := k35.trans k6
  have R6 : Rep W S F H6 := R5.same k6
  -- sorted(holds) != there
  refine ⟨_, rfl, hd, _, ms.map fun n : Nat => (n : Int), rfl, .inl hhd, ?_, by rw [List.length_map]; omega, fun ys p7 hy1 hy2 hp7 => ?_⟩
  · unfold hk
    rw [List.map_map, List.map_map]
    rfl
  have hys : ys = ms.map fun n : Nat => (n : Int) := PySem.W.ksm_same hy1 hy2 (by
    rw [List.pairwise_map]
    exact hsort.imp fun {a b} h => by omega)
  rw [hys]
  have htl6 : (upd H6 p7 (.lst ((ms.map fun n : Nat => (n : Int)).map V.int))) tl = some (.lst ((ms.map fun n : Nat => (n : Int)).map V.int)) := by
    rw [upd_ne (ne_of_none (k36 _ _ htl3) hp7), ← natV_map]
    exact k36 _ _ htl3
  refine ⟨_, rfl, _, _, dp_list (ns := ms.map fun n : Nat => (n : Int)) upd_same, dp_list htl6, shaped_ints _, shaped_ints _, _, rfl, ?_⟩
  rw [eqv_ints]
  refine iteF ?_
  have k67 : Same H6 (upd H6 p7 (.lst ((ms.map fun n : Nat => (n : Int)).map V.int))) := same_new hp7 _
  generalize upd H6 p7 (.lst ((ms.map fun n : Nat => (n : Int)).map V.int)) = H7 at k67 ⊢
  have k37 : Same H3 H7 := k36.trans k67
  have R7 : Rep W S F H7 := R6.same k67
  have hhd7 := k67 _ _ hhd
  -- all([..])
  refine ⟨_, rfl, tl, rfl, ⟨_, SqL.of (k37 _ _ htl3)⟩, fun D8 hD8 => ?_⟩
  refine lc_list (K := K) (a := tl) (xs := natV ms) (fun j H2 => Same H7 H2 ∧ H2 D8 = some (.lst ((List.replicate j true).map V.bl))) ⟨same_new hD8 _, upd_same⟩ (fun j H2 _ h2 => SqL.of (h2.1 _ _ (k37 _ _ htl3))) ?_ ?_
  · rintro j x H2 hj ⟨k2, hacc⟩
    obtain ⟨n, hn, rfl⟩ := natV_at hj
    have hnm : n ∈ ms := List.mem_of_getElem? hn
    have hnT : n ∈ S.there := hperm.mem_iff.mp hnm
    have hjl : j < ms.length := (List.getElem?_eq_some_iff.mp hn).1
    have hg := hk_get ndm c hnm
    have ec : (S.th n).count = c n := by rw [count_is I hmine hperm hnT, hc n hnm]
    have hpos : 0 < c n := by
      rw [← ec]
      exact count_pos I hrow hnT
    refine ⟨rfl, ?_⟩
    refine tYes_of ?_
    refine iteT ?_
    refine ⟨_, rfl, _, rfl, hd, _, rfl, .inl ⟨_, Sum.inl (n : Int), .inl (k2 _ _ hhd7), rfl, hg.symm⟩, _, _, rfl, rfl, _, rfl, ?_⟩
    rw [decide_eq_true hpos]
    refine iteT ?_
    refine ⟨_, rfl, _, rfl, kd, _, rfl, .inl ⟨kn, Sum.inl (n : Int), .inl (k2 _ _ (k37 _ _ hkd3)), rfl, (hkn n hnT).symm⟩, _, W.C, _, _, _, rfl, k2 _ _ (R7.th (I.rng hnT)), T.cl, T.nCount, tf_count _ _, _, rfl, _, rfl, hd, _, rfl, .inl ⟨_, Sum.inl (n : Int), .inl (k2 _ _ hhd7), rfl, hg.symm⟩, rfl, ?_⟩
    rw [ec, decide_eq_true rfl]
    refine ⟨_, hacc, by rw [List.length_map, List.length_replicate]; exact small1000 (by omega), fun b o e => by rw [upd_ne (ne_of_none e hD8)]; exact k2 b o e, ?_⟩
    rw [upd_same, List.replicate_succ', List.map_append]
    rfl
  rintro H8 ⟨k8, hacc8⟩
  refine ⟨D8, _, rfl, SqL.of hacc8, _, rfl, ?_⟩
  have hallT : ∀ m, (List.replicate m true).all id = true := fun m => by
    rw [List.all_eq_true]
    intro x hx
    rw [List.eq_of_mem_replicate hx]
    rfl
  rw [hallT]
  refine iteF ?_
  have k38 : Same H3 H8 := k37.trans k8
  have R8 : Rep W S F H8 := R7.same k8
  -- ends
  refine ⟨_, rfl, _, _, _, rfl, R8.en, ef_a _, W, S, F, ⟨rfl, rfl, rfl⟩, rfl, R8, fun en hen => ?_⟩
  have R9 := R8.new hen (.lst (natV S.nums))
  have k89 : Same H8 (upd H8 en (.lst (natV S.nums))) := same_new hen _
  have hen9 : (upd H8 en (.lst (natV S.nums))) en = some (.lst (natV S.nums)) := upd_same
  generalize upd H8 en (.lst (natV S.nums)) = H9 at R9 k89 hen9 ⊢
  have k39 : Same H3 H9 := k38.trans k89
  have hnl := I.nlen
  -- len(set(ends)) != len(ends) or ..
  refine ⟨_, rfl, en, S.nums.map fun n : Nat => (n : Int), rfl, by rw [← natV_map]; exact SqL.of hen9, ?_, by rw [List.length_map]; omega, _, rfl, en, _, rfl, .inl (SqL.of hen9), rfl, _, rfl, ?_⟩
  · refine List.pairwise_map.mpr (List.Pairwise.imp ?_ I.nn)
    intro a b n e
    exact n (by omega)
  rw [natV_len, List.length_map, decide_eq_true rfl]
  refine iteF ?_
  refine ⟨_, rfl, lf, rfl, ⟨_, SqL.of (k39 _ _ hlf3)⟩, fun D10 hD10 => ?_⟩
  refine lc_list (K := K) (a := lf) (xs := natV S.left) (fun j H2 => Same H9 H2 ∧ H2 D10 = some (.lst [])) ⟨same_new hD10 _, upd_same⟩ (fun j H2 _ h2 => SqL.of (h2.1 _ _ (k39 _ _ hlf3))) ?_ ?_
  · rintro j x H2 hj ⟨k2, hacc⟩
    obtain ⟨n, hn, rfl⟩ := natV_at hj
    have hnL : n ∈ S.left := List.mem_of_getElem? hn
    refine ⟨rfl, ?_⟩
    refine ⟨_, rfl, _, rfl, en, _, rfl, .inl (SqL.of (k2 _ _ hen9)), rfl, natV_flat _, _, rfl, ?_⟩
    rw [inV_natV, decide_eq_true (I.le n hnL)]
    refine iteF ?_
    exact ⟨k2, hacc⟩
  rintro H10 ⟨k10, hacc10⟩
  refine ⟨D10, _, rfl, .inl (SqL.of hacc10), _, _, rfl, rfl, _, rfl, ?_⟩
  refine iteF ?_
  have k310 : Same H3 H10 := k39.trans k10
  have R10 : Rep W S F H10 := R9.same k10
  have hdt10 := R10.fr _ _ hdt
  have hlf10 := k310 _ _ hlf3
  have nlf : lf ≠ dt := ne_of hlf10 hdt10 (by intro z; cases z)
  -- return all([..])
  refine ⟨dt, .dK (tkv S Kn), hdt10, trivial, fun od => ?_⟩
  refine ⟨_, rfl, dt, od, rfl, .inl ⟨tkv S Kn, upd_same, fun D11 hD11 => ?_⟩⟩
  have nD11 : D11 ≠ dt := fun z => by rw [z, upd_same] at hD11; cases hD11
  have hD11' : H10 D11 = none := by
    rw [upd_ne nD11] at hD11
    exact hD11
  refine lc_it walk_keys (fun j H2 => H2 dt = some (.frz od (.dK (tkv S Kn))) ∧ (∀ b o, H10 b = some o → b ≠ dt → H2 b = some o) ∧ ∃ m, m ≤ j ∧ H2 D11 = some (.lst ((List.replicate m true).map V.bl)))
    ⟨by rw [upd_ne nD11.symm, upd_same], fun b o e n => by rw [upd_ne (ne_of_none e hD11'), upd_ne n]; exact e, 0, Nat.le_refl _, upd_same⟩ (fun j H2 _ h2 => h2.1) ?_ ?_
  · rintro j x Hc Hc2 hj ⟨hcd, k2, m, hmj, hacc⟩ ⟨e0, k0, v0, hget, rfl⟩
    rw [e0]
    rw [tkv_len] at hj
    rw [tkv_at hj] at hget
    obtain ⟨rfl, rfl⟩ : ((Sum.inl ((j + 1 : Nat) : Int) : Key)) = k0 ∧ S.rf (j + 1) = v0 := by
      have := Option.some.inj hget
      exact ⟨congrArg Prod.fst this, congrArg Prod.snd this⟩
    have hm : 1 ≤ j + 1 ∧ j + 1 ≤ S.many := ⟨by omega, Nat.le_trans hj I.km⟩
    have adne : (S.th (j + 1)).ad ≠ dt := fun z => R.dj dt _ (.th (j + 1)) hdt (by rw [← z]; exact adr_th hm)
    have pdne : (S.th (j + 1)).pd ≠ dt := fun z => R.dj dt _ (.pd (j + 1)) hdt (by rw [← z]; exact adr_pd hm)
    refine ⟨rfl, ?_⟩
    refine ⟨_, rfl, _, rfl, lf, _, rfl, .inl (SqL.of (k2 _ _ hlf10 nlf)), rfl, natV_flat _, _, rfl, ?_⟩
    show if (inV (.int ((j + 1 : Nat) : Int)) (natV S.left)) = true then _ else _
    rw [inV_natV]
    by_cases hL : j + 1 ∈ S.left
    · rw [decide_eq_true hL]
      refine iteT ?_
      have hth := k2 _ _ (R10.th hm) adne
      have hpd := k2 _ _ (R10.pd hm) pdne
      refine ⟨_, rfl, _, rfl, dt, _, rfl, .inl ⟨_, Sum.inl ((j + 1 : Nat) : Int), .inr ⟨od, hcd⟩, rfl, (tkv_get hm.1 hj).symm⟩, _, W.C, _, _, _, rfl, hth, T.cl, T.nParts, tf_parts _ _, fun p hp => ?_⟩
      rw [I.lp _ hL] at hpd
      refine ⟨_, p, [], [], rfl, rfl, by rw [upd_ne (ne_of_none hpd hp)]; exact hpd, upd_same, rfl, (fun z hz => nomatch hz), ?_⟩
      have nDp : D11 ≠ p := ne_of_none hacc hp
      refine ⟨_, by rw [upd_ne nDp]; exact hacc, by rw [List.length_map, List.length_replicate]; exact small1000 (by omega), ?_, fun b o e n => ?_, m + 1, by omega, ?_⟩
      · rw [upd_ne nD11.symm, upd_ne (ne_of_none hcd hp)]
        exact hcd
      · rw [upd_ne (ne_of_none e hD11'), upd_ne (ne_of_none (k2 b o e n) hp)]
        exact k2 b o e n
      · rw [upd_same, List.replicate_succ', List.map_append]
        rfl
    · rw [decide_eq_false hL]
      refine iteF ?_
      exact ⟨hcd, k2, m, by omega, hacc⟩
  · rintro Hc ⟨hcd, k2, m, hmj, hacc⟩
    refine ⟨hcd, D11, _, rfl, SqL.of (by rw [upd_ne nD11]; exact hacc), ?_⟩
    rw [hallT]
    refine k _ fun b o e => ?_
    have e10 : H10 b = some o := k310 _ _ (k3 _ _ e)
    by_cases z : b = dt
    · rw [z, upd_same]
      rw [z, hdt10] at e10
      exact e10
    · rw [upd_ne z]
      exact k2 b o e10 z
end
end Snk
namespace Snk
open PySem L2
/-! ## O. one deed of the asker's -/
theorem inv_perm {Kn : Nat} {S : Hs} {ext ext' : List V} {act sus : List Nat} {x : Nat} (h : Inv Kn S ext act sus x) (p : ext.Perm ext') : Inv Kn S ext' act sus x :=
  ⟨h.nd, h.mem, fun n hn => by rw [← p.count_eq]; exact h.cnt n hn, h.pv, fun v hv => h.ev v (p.mem_iff.mpr hv), h.av, h.wv, h.wn, h.wt, h.wa, h.zr, h.en, h.nn, h.le, h.lp, h.mp, h.pk, h.km, h.bud, h.ij⟩
theorem PlF.kb {Kn : Nat} {S : Hs} {F F' : Hp} {wl : Addr} (PL : PlF Kn S F) (k : KB wl F F') (h1 : ∀ ts : List (Addr × Deed), F wl ≠ some (.lst (ts.map fun t => V.ref t.1))) (h2 : ∀ xs, F wl ≠ some (.tup xs)) : PlF Kn S F' := fun p hp => by
  obtain ⟨a, ts, b, c, d⟩ := PL p hp
  refine ⟨a, ts, b, k _ _ c fun z => h1 ts (by rw [← z]; exact c), fun t ht => ?_⟩
  obtain ⟨d1, d2⟩ := d t ht
  exact ⟨d1, k _ _ d2 fun z => h2 _ (by rw [← z]; exact d2)⟩
theorem well_no1 {F : Hp} {wl ce : Addr} (h : WellAt F wl ce) (ts : List (Addr × Deed)) : F wl ≠ some (.lst (ts.map fun t => V.ref t.1)) := fun e => by
  obtain ⟨w, cs, h1, ⟨b, c, x, nx, rfl, _⟩, _⟩ := h
  rw [h1] at e
  cases ts with
  | nil => cases e
  | cons t r =>
    injection e with e
    injection e with e
    injection e with e _
    cases e
theorem well_no2 {F : Hp} {wl ce : Addr} (h : WellAt F wl ce) (xs : List V) : F wl ≠ some (.tup xs) := fun e => by
  obtain ⟨w, cs, h1, _⟩ := h
  rw [h1] at e
  cases e
theorem mine_no1 {F : Hp} {mi : Addr} {r : List Nat} (h : F mi = some (.lst (natV (1 :: r)))) (ts : List (Addr × Deed)) : F mi ≠ some (.lst (ts.map fun t => V.ref t.1)) := fun e => by
  rw [h] at e
  cases ts with
  | nil => cases e
  | cons t r =>
    injection e with e
    injection e with e
    injection e with e _
    cases e
/-- the law between two deeds -/
structure LSt (C CH CE : Addr) (W : Wd) (S : Hs) (F H : Hp) (Kn : Nat) (wl ce dt mi : Addr) (mine : List Nat) : Prop where
  w : IsW W C CH CE
  rep : Rep W S F H
  pl : PlF Kn S F
  well : WellAt F wl ce
  things : F dt = some (.dK (tkv S Kn))
  hmi : F mi = some (.lst (natV mine))
  inv : Inv Kn S (mine.map S.rf) [] [] 0
  row : S.row = none
  k12 : Kn ≤ 12
  k1 : 1 ≤ Kn
  mks : ∀ m, m ∈ mine → 1 ≤ m ∧ m ≤ Kn
  hd : ∃ r, mine = 1 :: r
  nce : mi ≠ ce
section
variable {C CH CE : Addr} {W : Wd} {S : Hs} {F H H' : Hp} {Kn : Nat} {wl ce dt mi : Addr} {mine : List Nat}
theorem LSt.dtw (L : LSt C CH CE W S F H Kn wl ce dt mi mine) : dt ≠ wl := by
  obtain ⟨w, cs, h1, _⟩ := L.well
  exact ne_of L.things h1 (by intro z; cases z)
theorem LSt.miw (L : LSt C CH CE W S F H Kn wl ce dt mi mine) : mi ≠ wl := by
  obtain ⟨w, cs, h1, ⟨b, c, x, nx, rfl, _⟩, _⟩ := L.well
  obtain ⟨r, rfl⟩ := L.hd
  refine ne_of L.hmi h1 fun z => ?_
  injection z with z
  injection z with z _
  cases z
theorem LSt.dtm (L : LSt C CH CE W S F H Kn wl ce dt mi mine) : dt ≠ mi := ne_of L.things L.hmi (by intro z; cases z)
theorem LSt.upto (L : LSt C CH CE W S F H Kn wl ce dt mi mine) (k : KB wl H H') (hw : WellAt H' wl ce) : ∃ F', LSt C CH CE W S F' H' Kn wl ce dt mi mine ∧ ∀ b o, H b = none → H' b = some o → F' b = some o := by
  obtain ⟨F', R', kF, hF, hnew⟩ := L.rep.upto L.well.some k
  refine ⟨F', ⟨L.w, R', L.pl.kb kF (well_no1 L.well) (well_no2 L.well), ?_, kF _ _ L.things L.dtw, kF _ _ L.hmi L.miw, L.inv, L.row, L.k12, L.k1, L.mks, L.hd, L.nce⟩, hnew⟩
  obtain ⟨w, cs, h1, h2, _⟩ := hw
  have ne := L.well.ne
  obtain ⟨_, cs0, _, _, z3, z4⟩ := L.well
  exact ⟨w, cs0, hF _ h1, h2, kF _ _ z3 ne.symm, z4⟩
theorem tkv_mo {d : Nat} {S' : Hs} (h : Kn ≤ S.many) (M : Mo Kn d S S') : tkv S' Kn = tkv S Kn := by
  unfold tkv
  refine List.map_congr_left fun i hi => ?_
  have := List.mem_range.mp hi
  unfold Hs.rf
  rw [M.ad (i + 1) (by omega)]
theorem map_mo {d : Nat} {S' : Hs} {l : List Nat} (h : Kn ≤ S.many) (hl : ∀ m, m ∈ l → 1 ≤ m ∧ m ≤ Kn) (M : Mo Kn d S S') : l.map S'.rf = l.map S.rf :=
  List.map_congr_left fun m hm => by
    unfold Hs.rf
    rw [M.ad m (Nat.le_trans (hl m hm).2 h)]
/-- behind a call of the hall's -/
theorem LSt.step (L : LSt C CH CE W S F H Kn wl ce dt mi mine) {S' : Hs} (R : Rep W S' F H') (I : Inv Kn S' (mine.map S.rf) [] [] 0) (hr : S'.row = none) (M : Mo Kn 0 S S') : LSt C CH CE W S' F H' Kn wl ce dt mi mine :=
  ⟨L.w, R, L.pl.step L.inv.km M (Same.refl F), L.well, by rw [tkv_mo L.inv.km M]; exact L.things, L.hmi, by rw [map_mo L.inv.km L.mks M]; exact I, hr, L.k12, L.k1, L.mks, L.hd, L.nce⟩
/-- the asker's list is written: from a state of which all but this list is right -/
theorem LSt.wmine (L : LSt C CH CE W S F H Kn wl ce dt mi mine) {S' : Hs} {mine' : List Nat} {F' : Hp} (hF : F' = upd F mi (.lst (natV mine'))) (R : Rep W S' F' H') (I : Inv Kn S' (mine'.map S.rf) [] [] 0) (hr : S'.row = none) (M : Mo Kn 0 S S')
    (hk : ∀ m, m ∈ mine' → 1 ≤ m ∧ m ≤ Kn) (hh : ∃ r, mine' = 1 :: r) : LSt C CH CE W S' F' H' Kn wl ce dt mi mine' := by
  have dtm := L.dtm
  have miw := L.miw
  have nce := L.nce
  have PL2 : PlF Kn S F' := by
    obtain ⟨r, e⟩ := L.hd
    have h0 := L.hmi
    rw [e] at h0
    rw [hF]
    exact L.pl.kb (wl := mi) (KB.well _) (mine_no1 h0) fun xs z => by rw [h0] at z; cases z
  refine ⟨L.w, R, PL2.step L.inv.km M (Same.refl F'), ?_, by rw [tkv_mo L.inv.km M, hF, upd_ne dtm]; exact L.things, by rw [hF]; exact upd_same, by rw [map_mo L.inv.km hk M]; exact I, hr, L.k12, L.k1, hk, hh, L.nce⟩
  obtain ⟨w, cs, h1, h2, h3, h4⟩ := L.well
  exact ⟨w, cs, by rw [hF, upd_ne miw.symm]; exact h1, h2, by rw [hF, upd_ne nce.symm]; exact h3, h4⟩
end
theorem unE_le (Kn : Nat) (S : Hs) : unE Kn S ≤ Kn := by
  unfold unE
  have := List.length_filter_le (fun i => !(S.th (i + 1)).ended) (List.range Kn)
  rw [List.length_range] at this
  exact this
theorem tkv_none {S : Hs} {Kn n : Nat} (h : Kn < n) : valV (tkv S Kn) (Sum.inl (n : Int)) = none := by
  refine keys_not fun z => ?_
  obtain ⟨p, hp, e⟩ := List.mem_map.mp z
  obtain ⟨i, hi, rfl⟩ := List.mem_map.mp hp
  have := List.mem_range.mp hi
  have := Sum.inl.inj e
  omega
/-- d != {} -/
theorem op_ne_e {X : Cx} (hu : X.A.units < cLine) : OpR X (compareOp .NotEq) (fun x y H Q => ∃ a b ks, x = .ref a ∧ y = .ref b ∧ H a = some (.dK ks) ∧ H b = some (.dK []) ∧ Q (.bl (decide (ks ≠ []))) H) := by
  intro pins s σ H x y v u Q I rx ry h
  obtain ⟨a, b, ks, rfl, rfl, ea, eb, q⟩ := h
  obtain rfl : v = Value.ref a := rx
  obtain rfl : u = Value.ref b := ry
  obtain ⟨_, ya, va, ra, da⟩ := (show ObjOk X.prog X.w H s.heap a (.dK ks) from I.hok a _ ea)
  obtain ⟨_, yb, vb, rb, db⟩ := (show ObjOk X.prog X.w H s.heap b (.dK []) from I.hok b _ eb)
  have hb : vb.length = 0 := by rw [← rb.length]; rfl
  cases ks with
  | nil =>
    have ha : va.length = 0 := by rw [← ra.length]; rfl
    refine PySem.W.keq_ne (knd := mixKind X.prog X.w) (r := true) ya yb da db hu (fun _ => hits_all rb ra fun p hp => nomatch hp) (fin_bl I q (by rw [ha, hb]; rfl))
  | cons k r =>
    have ha : va.length = r.length + 1 := by rw [← ra.length]; rfl
    refine PySem.W.keq_ne (knd := mixKind X.prog X.w) (r := true) ya yb da db hu (fun e => by omega) (fin_bl I q (by rw [ha, hb]; rfl))
section
variable {P : Program} {w : World} {K : PySem.W.Frag} {mg : Str → Option Value} {base : Heap} {C CH CE : Addr}
def elseOf : Stmt → List Stmt
  | .If _ _ o _ => o
  | _ => []
abbrev els1 : List Stmt := elseOf ((defBody lStep).getD 4 (.Pass ⟨0, 0, 0, 0⟩))
abbrev els2 : List Stmt := elseOf (els1.getD 0 (.Pass ⟨0, 0, 0, 0⟩))
abbrev els3 : List Stmt := elseOf (els2.getD 0 (.Pass ⟨0, 0, 0, 0⟩))
theorem natV_erase : ∀ (l : List Nat) (j : Nat), (natV l).eraseIdx j = natV (l.eraseIdx j)
  | [], j => by simp [natV]
  | a :: r, 0 => rfl
  | a :: r, j + 1 => by
    show V.int (a : Int) :: (natV r).eraseIdx j = V.int (a : Int) :: natV (r.eraseIdx j)
    rw [natV_erase r j]
theorem perm_erase : ∀ {l : List Nat} {j m : Nat}, l[j]? = some m → l.Perm (m :: l.eraseIdx j)
  | [], j, m, h => by simp at h
  | a :: r, 0, m, h => by
    have : a = m := Option.some.inj h
    subst this
    exact List.Perm.refl _
  | a :: r, j + 1, m, h => by
    have ih := perm_erase (l := r) (j := j) (m := m) h
    show (a :: r).Perm (m :: a :: r.eraseIdx j)
    exact (ih.cons a).trans (List.Perm.swap m a _)
theorem LSt.plm {C CH CE : Addr} {W : Wd} {S : Hs} {F H : Hp} {Kn : Nat} {wl ce dt mi : Addr} {mine : List Nat} (L : LSt C CH CE W S F H Kn wl ce dt mi mine) (m' : List Nat) : PlF Kn S (upd F mi (.lst (natV m'))) := by
  obtain ⟨r, e⟩ := L.hd
  have h0 := L.hmi
  rw [e] at h0
  exact L.pl.kb (wl := mi) (KB.well _) (mine_no1 h0) fun xs z => by rw [h0] at z; cases z
def spStep (C CH CE : Addr) : Sp := fun vs H Q _ => ∃ (W : Wd) (S : Hs) (F : Hp) (Kn : Nat) (wl ce dt mi : Addr) (mine : List Nat), vs = [.ref wl, .ref W.h, .ref dt, .ref mi] ∧ LSt C CH CE W S F H Kn wl ce dt mi mine ∧ mine.length < 900 ∧
  ∀ (S' : Hs) (F' H' : Hp) (mine' : List Nat), LSt C CH CE W S' F' H' Kn wl ce dt mi mine' → mine'.length ≤ mine.length + 1 → Q .non H'
theorem scStep : FnScope ["_law_well_here", "_law_hall", "_law_things", "_law_mine", "_law_there", "_law_one", "_law_other", "_law_way", "_law_keys", "_law_n"] ["_law_well_here", "_law_hall", "_law_things", "_law_mine"] (defScope lStep) := ⟨rfl, rfl, rfl, by decide +kernel, rfl, by decide +kernel, by decide +kernel⟩
abbrev nStep : List Str := ["_law_well_here", "_law_hall", "_law_things", "_law_mine", "_law_there", "_law_one", "_law_other", "_law_way", "_law_keys", "_law_n"]
theorem natV_get {l : List Nat} {v : Int} (h0 : 0 ≤ v) (h1 : v < (l.length : Int)) : ∃ n, n ∈ l ∧ l[v.toNat]? = some n ∧ atI (natV l) v = some (.int (n : Int)) := by
  have hlt : v.toNat < l.length := by omega
  refine ⟨l[v.toNat], List.getElem_mem hlt, List.getElem?_eq_getElem hlt, at_of (j := v.toNat) (by omega) ?_⟩
  unfold natV
  rw [List.getElem?_map, List.getElem?_eq_getElem hlt]
  rfl
theorem keys_get {ps : List (Key × V)} {v : Int} (h0 : 0 ≤ v) (h1 : v < (ps.length : Int)) : ∃ kv, kv ∈ ps ∧ atI (ps.map fun kv => kV kv.1) v = some (kV kv.1) := by
  have hlt : v.toNat < ps.length := by omega
  refine ⟨ps[v.toNat], List.getElem_mem hlt, at_of (j := v.toNat) (by omega) ?_⟩
  rw [List.getElem?_map, List.getElem?_eq_getElem hlt]
  rfl
theorem ok_step {f d g ft : Addr} {fd dd gd dt' : FuncData} (F : Fun K "_law_step" "_law_step" lStep f fd) (T : Txt K mg C CH CE) (N : Fns K C CH CE)
    (D : FnOk P w K mg base CX0 2 d dd ["_law_well_here", "_law_most"] spDig) (bD : Binds K dd ["_law_well_here", "_law_most"] []) (kD : PySem.W.keepIn K (.ref d) = true) (mD : mg "_law_dig" = some (.ref d))
    (G : FnOk P w K mg base CX0 3 g gd ["_law_well_here"] spKey) (bG : Binds K gd ["_law_well_here"] []) (kG : PySem.W.keepIn K (.ref g) = true) (mG : mg "_law_key" = some (.ref g))
    (FT : Fun K "things" "Hall.things" sThings ft dt') (bT : Binds K dt' ["self"] []) (mT : Meth K CH "things" ft) (hf_t : ∀ (W : Wd) (S : Hs), (hf W S).lookup ("things" : Str) = none) :
    FnOk P w K mg base CX0 109 f fd ["_law_well_here", "_law_hall", "_law_things", "_law_mine"] (spStep C CH CE) := by
  have AO := all_ok (P := P) (w := w) (mg := mg) (base := base) T N 12
  have GL : FnOk P w K mg base CX0 107 N.aLoose N.dLoose ["self", "value"] (spLooseB C CH CE 13) := AO.loose
  have GP : FnOk P w K mg base CX0 108 N.aPut N.dPut ["self", "thing", "key", "value"] (spPutB C CH CE 13) := AO.put
  have GTk : FnOk P w K mg base CX0 108 N.aTake N.dTake ["self", "thing", "key"] (spTakeB C CH CE 13) := AO.take
  have GH : FnOk P w K mg base CX0 1 N.aHold N.dHold ["self", "value"] (spHoldC C) := ok_holdC T N
  have GT : FnOk P w K mg base CX0 1 ft dt' ["self"] (spThings C CH CE) := ok_things FT T
  refine F.ok scStep (fun vs H Q E h => ?_) (fun cdv A outer s H vs Q E hr h => ?_)
  · obtain ⟨W, S, F, Kn, wl, ce, dt, mi, mine, rfl, _⟩ := h
    rfl
  obtain ⟨W, S, F, Kn, wl, ce, dt, mi, mine, rfl, L, hlen, k⟩ := h
  obtain ⟨rfl, rfl, rfl⟩ := L.w
  have hu := hu_of hr
  have hu0 : _ < cLine := Nat.lt_of_succ_lt hu
  have hr1 : Room 1 _ := hr.mono (by decide)
  have hr2 : Room 2 _ := hr.mono (by decide)
  have hr3 : Room 3 _ := hr.mono (by decide)
  have hr7 : Room 107 _ := hr.mono (by decide)
  have I := L.inv
  have hu13 : ∀ S' : Hs, unE Kn S' < 13 := fun S' => by
    have a := unE_le Kn S'
    have b := L.k12
    omega
  have dgT : ∀ (Hx : Hp) (n : Nat), Hx dt = some (.dK (tkv S Kn)) → n ∈ S.there → n ≤ Kn → DGet Hx dt (.int (n : Int)) (some (S.rf n)) := fun Hx n hx h1 h2 => .inl ⟨_, Sum.inl (n : Int), .inl hx, rfl, (tkv_get (I.rng h1).1 h2).symm⟩
  -- from 'elif way == 5' on
  have tail5 : ∃ t, PSs (cxOf CX0 P w K mg base nStep "_law_step" (defScope lStep) f cdv A outer s H E).nox els3 t ∧ ∀ (Dl : Addr) (n1 n2 : Nat) (way : Int) (Fx Hx : Hp), LSt W.C W.CH W.CE W S Fx Hx Kn wl ce dt mi mine → n1 ∈ S.there → n1 ≤ Kn → n2 ∈ S.there → n2 ≤ Kn →
      t { nx := fun _ H' => Q .non H', rt := Q } [some (.ref wl), some (.ref W.h), some (.ref dt), some (.ref mi), some (.ref Dl), some (.int (n1 : Int)), some (.int (n2 : Int)), some (.int way), none, none] Hx := by
    refine ⟨_, pss_one (ps_if (pt_cmpR op_eq (pv 7) pe_int (nomark _))
        (pss_one (ps_expr (pe_meth (pv 1) T.clH N.mPut GP hr N.bPut .nil pass0 (pa_cons (pe_dget hu (pv 2) (pv 5) (fun _ _ => rfl)) (pa_cons (pe_call G hr3 rfl mG kG bG .nil pass0 (pa_cons (pv 0) pa_nil)) (pa_cons (pe_ix ix_list (pe_lst (pa_cons pe_int (pa_cons pe_str (pa_cons pe_bl (pa_cons pe_non pa_nil))))) (pe_call D hr2 rfl mD kD bD .nil pass0 (pa_cons (pv 0) (pa_cons pe_int pa_nil))) (fun _ _ => rfl)) pa_nil))))))
        (pss_one (ps_expr (pe_meth (pv 1) T.clH N.mPut GP hr N.bPut .nil pass0 (pa_cons (pe_dget hu (pv 2) (pv 5) (fun _ _ => rfl)) (pa_cons (pe_call G hr3 rfl mG kG bG .nil pass0 (pa_cons (pv 0) pa_nil)) (pa_cons (pe_dget hu (pv 2) (pv 6) (fun _ _ => rfl)) pa_nil))))))), ?_⟩
    intro Dl n1 n2 way Fx Hx Lx hn1 hn1K hn2 hn2K
    have Wx : WellAt Hx wl ce := Lx.well.same fun b o e => Lx.rep.fr b o e
    have hdtx := Lx.rep.fr _ _ Lx.things
    obtain ⟨ow, how⟩ := Wx.some
    refine ⟨_, rfl, rfl, _, rfl, ?_⟩
    refine ite2 (fun _ => ?_) (fun _ => ?_)
    · refine ⟨_, rfl, _, _, _, rfl, Lx.rep.hall, hf_no_put _ _, _, rfl, _, rfl, dt, _, rfl, dgT _ n1 hdtx hn1 hn1K, _, rfl, wl, ce, rfl, Wx, fun key p w' hk6 hp hw' => ?_⟩
      have Wa := (Wx.same (same_new hp (.lst (sixK.map kV)))).upd hw'
      have kba : KB wl Hx (upd (upd Hx p (.lst (sixK.map kV))) wl (.lst w')) := (KB.new hp _).trans (KB.well _)
      generalize upd (upd Hx p (.lst (sixK.map kV))) wl (.lst w') = Ha at Wa kba ⊢
      refine ⟨(by show 4 ≤ sizeLine; decide), fun q hq => ?_⟩
      have Wb := Wa.same (same_new hq (.lst [.int 3, .str "text", .bl false, .non]))
      obtain ⟨oa, hoa⟩ := Wa.some
      have nqw : q ≠ wl := (ne_of_none hoa hq).symm
      refine ⟨_, rfl, wl, ce, 4, rfl, Wb, by decide, by decide, fun v w2 hv0 hv1 hw2 => ?_⟩
      have Wc := Wb.upd hw2
      have kbc : KB wl Hx (upd (upd Ha q (.lst [.int 3, .str "text", .bl false, .non])) wl (.lst w2)) := kba.trans ((KB.new hq _).trans (KB.well _))
      have hqc : (upd (upd Ha q (.lst [.int 3, .str "text", .bl false, .non])) wl (.lst w2)) q = some (.lst [.int 3, .str "text", .bl false, .non]) := by rw [upd_ne nqw, upd_same]
      generalize upd (upd Ha q (.lst [.int 3, .str "text", .bl false, .non])) wl (.lst w2) = Hc at Wc kbc hqc ⊢
      obtain ⟨j, rfl⟩ : ∃ j : Nat, v = (j : Int) := ⟨v.toNat, by omega⟩
      have hj : j < 4 := by omega
      have hget : ∃ u, ([.int 3, .str "text", .bl false, .non] : List V)[j]? = some u ∧ Pln u := by
        match j, hj with
        | 0, _ => exact ⟨_, rfl, trivial⟩
        | 1, _ => exact ⟨_, rfl, trivial⟩
        | 2, _ => exact ⟨_, rfl, trivial⟩
        | 3, _ => exact ⟨_, rfl, trivial⟩
      obtain ⟨u, hu1, hu2⟩ := hget
      obtain ⟨Fc, Lc, _⟩ := Lx.upto kbc Wc
      refine ⟨q, _, _, _, rfl, rfl, SqL.of hqc, at_of rfl hu1, W, S, Fc, Kn, _, [], [], n1, key, u, 0, ⟨⟨rfl, rfl, rfl⟩, Lc.rep, Lc.pl, hu13 S, L.k12⟩, rfl, L.row, I, hn1, hn1K, hk6, .inl ⟨hu2, rfl⟩, fun S' H' R' I' hr' M' => ?_⟩
      exact k _ _ _ _ (Lc.step R' I' hr' M') (Nat.le_succ _)
    · refine ⟨_, rfl, _, _, _, rfl, Lx.rep.hall, hf_no_put _ _, _, rfl, _, rfl, dt, _, rfl, dgT _ n1 hdtx hn1 hn1K, _, rfl, wl, ce, rfl, Wx, fun key p w' hk6 hp hw' => ?_⟩
      have Wa := (Wx.same (same_new hp (.lst (sixK.map kV)))).upd hw'
      have kba : KB wl Hx (upd (upd Hx p (.lst (sixK.map kV))) wl (.lst w')) := (KB.new hp _).trans (KB.well _)
      generalize upd (upd Hx p (.lst (sixK.map kV))) wl (.lst w') = Ha at Wa kba ⊢
      obtain ⟨Fa, La, _⟩ := Lx.upto kba Wa
      refine ⟨_, rfl, _, rfl, dt, _, rfl, dgT _ n2 (La.rep.fr _ _ La.things) hn2 hn2K, W, S, Fa, Kn, _, [], [], n1, key, S.rf n2, 0, ⟨⟨rfl, rfl, rfl⟩, La.rep, La.pl, hu13 S, L.k12⟩, rfl, L.row, I, hn1, hn1K, hk6, .inr ⟨n2, rfl, hn2, .inl rfl⟩, fun S' H' R' I' hr' M' => ?_⟩
      exact k _ _ _ _ (La.step R' I' hr' M') (Nat.le_succ _)
  obtain ⟨t5, d5, r5⟩ := tail5
  -- from 'elif way == 4 and ..' on
  have tail4 : ∃ t, PSs (cxOf CX0 P w K mg base nStep "_law_step" (defScope lStep) f cdv A outer s H E).nox els2 t ∧ ∀ (Dl : Addr) (n1 n2 : Nat) (way : Int) (Fx Hx : Hp), LSt W.C W.CH W.CE W S Fx Hx Kn wl ce dt mi mine → n1 ∈ S.there → n1 ≤ Kn → n2 ∈ S.there → n2 ≤ Kn →
      t { nx := fun _ H' => Q .non H', rt := Q } [some (.ref wl), some (.ref W.h), some (.ref dt), some (.ref mi), some (.ref Dl), some (.int (n1 : Int)), some (.int (n2 : Int)), some (.int way), none, none] Hx := by
    refine ⟨_, pss_one (ps_if (PW.pt (pw_and (pt_cmpR op_eq (pv 7) pe_int (nomark _)) (pw_and1 (pt_cmpR (op_ne_e hu0) (pe_fld (pe_dget hu (pv 2) (pv 5) (fun _ _ => rfl)) rfl) pe_dnewK (nomark _)))))
        (pss_cons (ps_set (i := 8) scStep.nd rfl (Or.inl rfl) (pe_callTy (call_listD rfl) (by rfl) T.list (by decide +kernel) (pa_cons (pe_fld (pe_dget hu (pv 2) (pv 5) (fun _ _ => rfl)) rfl) pa_nil)))
          (pss_one (ps_expr (pe_meth (pv 1) T.clH N.mTake GTk hr N.bTake .nil pass0 (pa_cons (pe_dget hu (pv 2) (pv 5) (fun _ _ => rfl)) (pa_cons (pe_ix ix_list (pv 8) (pe_call D hr2 rfl mD kD bD .nil pass0 (pa_cons (pv 0) (pa_cons (pe_callB call_len_seq (by rfl) T.len PySem.boot_len (pa_cons (pv 8) pa_nil)) pa_nil))) (fun _ _ => rfl)) pa_nil))))))
        d5), ?_⟩
    intro Dl n1 n2 way Fx Hx Lx hn1 hn1K hn2 hn2K
    have Wx : WellAt Hx wl ce := Lx.well.same fun b o e => Lx.rep.fr b o e
    have hdtx := Lx.rep.fr _ _ Lx.things
    have hr1n := I.rng hn1
    refine ⟨_, rfl, rfl, _, rfl, ?_⟩
    refine ite2 (fun _ => ?_) (fun _ => ?_)
    · refine ⟨_, rfl, _, rfl, dt, _, rfl, dgT _ n1 hdtx hn1 hn1K, _, W.C, _, _, _, rfl, Lx.rep.th hr1n, T.cl, T.nParts, tf_parts _ _, fun p hp => ⟨_, p, (S.th n1).parts, rfl, rfl, ?_, upd_same, _, rfl, ?_⟩⟩
      · rw [upd_ne (ne_of_none (Lx.rep.pd hr1n) hp)]
        exact Lx.rep.pd hr1n
      obtain ⟨Fp, Lp, _⟩ := Lx.upto (KB.new hp (.dK [])) (Wx.same (same_new hp _))
      refine ite2 (fun hne => ?_) (fun _ => ?_)
      · have hne' : (S.th n1).parts ≠ [] := of_decide_eq_true hne
        have hlen6 := I.plen hn1
        have hlen0 : 0 < (S.th n1).parts.length := List.length_pos_iff.mpr hne'
        refine ⟨_, rfl, _, rfl, dt, _, rfl, dgT _ n1 (Lp.rep.fr _ _ Lp.things) hn1 hn1K, _, W.C, _, _, _, rfl, Lp.rep.th hr1n, T.cl, T.nParts, tf_parts _ _, _, _, rfl, .inl (Lp.rep.pd hr1n), fun kl hkl => ?_⟩
        obtain ⟨Fk, Lk, hnew⟩ := Lp.upto (KB.new hkl (.lst ((S.th n1).parts.map fun kv => kV kv.1))) ((Lp.well.same fun b o e => Lp.rep.fr b o e).same (same_new hkl _))
        have hklk : (upd (upd Hx p (.dK [])) kl (.lst ((S.th n1).parts.map fun kv => kV kv.1))) kl = some (.lst ((S.th n1).parts.map fun kv => kV kv.1)) := upd_same
        generalize upd (upd Hx p (.dK [])) kl (.lst ((S.th n1).parts.map fun kv => kV kv.1)) = Hk at Lk hklk ⊢
        have Wk : WellAt Hk wl ce := Lk.well.same fun b o e => Lk.rep.fr b o e
        obtain ⟨ok, hok⟩ := Wk.some
        have nkw : kl ≠ wl := by
          obtain ⟨w9, cs9, q1, ⟨b9, c9, x9, y9, rfl, _⟩, _⟩ := Wk
          refine ne_of hklk q1 fun z => ?_
          cases e : (S.th n1).parts with
          | nil => exact hne' e
          | cons kv r =>
            rw [e] at z
            injection z with z
            injection z with z _
            have z : kV kv.1 = V.bl b9 := z
            cases hkv : kv.1 with
            | inl i => rw [hkv] at z; cases z
            | inr x => rw [hkv] at z; cases z
        refine ⟨_, rfl, _, _, _, rfl, Lk.rep.hall, hf_no_take _ _, _, rfl, _, rfl, dt, _, rfl, dgT _ n1 (Lk.rep.fr _ _ Lk.things) hn1 hn1K, _, rfl, _, rfl, _, rfl, kl, _, rfl, .inl (SqL.of hklk), wl, ce, _, rfl, Wk, by rw [List.length_map]; omega, by rw [List.length_map]; omega, fun v w2 hv0 hv1 hw2 => ?_⟩
        rw [List.length_map] at hv1
        obtain ⟨kv, hkv, hat⟩ := keys_get hv0 hv1
        have hklm : (upd Hk wl (.lst w2)) kl = some (.lst ((S.th n1).parts.map fun kv => kV kv.1)) := by rw [upd_ne nkw]; exact hklk
        obtain ⟨Fm, Lm, _⟩ := Lk.upto (KB.well (.lst w2)) (Wk.upd hw2)
        have hval : valV (S.th n1).parts kv.1 = some kv.2 := valV_nd (I.pk n1 hn1).1 hkv
        refine ⟨kl, _, _, _, rfl, rfl, SqL.of hklm, hat, W, S, Fm, Kn, _, [], [], n1, kv.1, kv.2, ⟨⟨rfl, rfl, rfl⟩, Lm.rep, Lm.pl, hu13 S, L.k12⟩, rfl, L.row, I, hn1, hval, fun S' H' R' I' hr' M' => ?_⟩
        exact k _ _ _ _ (Lm.step R' I' hr' M') (Nat.le_succ _)
      · exact r5 Dl n1 n2 way Fp _ Lp hn1 hn1K hn2 hn2K
    · refine iteF ?_
      exact r5 Dl n1 n2 way Fx Hx Lx hn1 hn1K hn2 hn2K
  obtain ⟨t4, d4, r4⟩ := tail4
  refine ⟨_, pss_cons (ps_setLc (i := 4) (own := [("_law_n", 9)]) (g := gName 9) rfl scStep.nd rfl rfl (sw_true rfl rfl rfl (by decide +kernel)) (pi_list (pe_meth0 (pv 1) T.clH mT GT hr1 bT .nil pass0)) (blkOk_by (N := nStep) (sc := defScope lStep) (by decide +kernel)) (fun _ _ _ _ _ => pg_name (i := 9) scStep.nd rfl (Or.inl rfl))
        (fun _ _ _ _ _ => pts_one (pt_cmp (pc_din hu (pv 9) (pv 2)))) (fun _ _ _ _ _ => pv 9))
    (pss_cons (ps_set (i := 5) scStep.nd rfl (Or.inl rfl) (pe_ix ix_list (pv 4) (pe_call D hr2 rfl mD kD bD .nil pass0 (pa_cons (pv 0) (pa_cons (pe_callB call_len_seq (by rfl) T.len PySem.boot_len (pa_cons (pv 4) pa_nil)) pa_nil))) (fun _ _ => rfl)))
    (pss_cons (ps_set (i := 6) scStep.nd rfl (Or.inl rfl) (pe_ix ix_list (pv 4) (pe_call D hr2 rfl mD kD bD .nil pass0 (pa_cons (pv 0) (pa_cons (pe_callB call_len_seq (by rfl) T.len PySem.boot_len (pa_cons (pv 4) pa_nil)) pa_nil))) (fun _ _ => rfl)))
    (pss_cons (ps_set (i := 7) scStep.nd rfl (Or.inl rfl) (pe_call D hr2 rfl mD kD bD .nil pass0 (pa_cons (pv 0) (pa_cons pe_int pa_nil))))
    (pss_one (ps_if (pt_cmpR op_eq (pv 7) pe_int (nomark _))
      (pss_cons (ps_expr (pe_bm PySem.F.plainAttrs_list PySem.F.slot_list_append PySem.F.type_list_append mt_append (pv 3) (pa_cons (pv 5) pa_nil)))
        (pss_one (ps_expr (pe_meth (pv 1) T.clH N.mHold GH hr1 N.bHold .nil pass0 (pa_cons (pe_dget hu (pv 2) (pv 5) (fun _ _ => rfl)) pa_nil)))))
      (pss_one (ps_if (PW.pt (pw_and (pt_cmpR op_lt (pv 7) pe_int (nomark _)) (pw_and1 (pt_cmpR op_gt (pe_callB call_len_seq (by rfl) T.len PySem.boot_len (pa_cons (pv 3) pa_nil)) pe_int (nomark _)))))
        (pss_cons (ps_set (i := 5) scStep.nd rfl (Or.inl rfl) (pe_bm PySem.F.plainAttrs_list PySem.F.slot_list_pop PySem.F.type_list_pop mt_popAt (pv 3) (pa_cons (pe_op op_add pe_int (pe_call D hr2 rfl mD kD bD .nil pass0 (pa_cons (pv 0) (pa_cons (pe_op op_sub (pe_callB call_len_seq (by rfl) T.len PySem.boot_len (pa_cons (pv 3) pa_nil)) pe_int) pa_nil)))) pa_nil)))
          (pss_one (ps_expr (pe_meth (pv 1) T.clH N.mLoose GL hr7 N.bLoose .nil pass0 (pa_cons (pe_dget hu (pv 2) (pv 5) (fun _ _ => rfl)) pa_nil)))))
      d4))))))), ?_⟩
  have R := L.rep
  have hmany : S.many ≤ 48 := by
    have a := I.many_le
    have b := L.k12
    omega
  have hT48 : S.there.length < 64 := by
    have := I.tlen
    omega
  -- there
  refine ⟨_, rfl, _, _, _, rfl, R.hall, hf_t _ _, W, S, F, ⟨rfl, rfl, rfl⟩, rfl, R, hT48, fun ms tl hperm hsort htl => ?_⟩
  refine ⟨tl, rfl, ⟨_, SqL.of upd_same⟩, fun Dl hDl => ?_⟩
  have hdtH := R.fr _ _ L.things
  have k1 : Same H (upd H tl (.lst (natV ms))) := same_new htl _
  refine lc_list (K := K) (a := tl) (xs := natV ms) (fun j H2 => Same (upd H tl (.lst (natV ms))) H2 ∧ H2 Dl = some (.lst (natV ((ms.take j).filter fun n => decide (n ≤ Kn))))) ⟨same_new hDl _, upd_same⟩ (fun j H2 _ h2 => SqL.of (h2.1 _ _ upd_same)) ?_ ?_
  · rintro j x H2 hj ⟨k2, hacc⟩
    obtain ⟨n, hn, rfl⟩ := natV_at hj
    have hjl : j < ms.length := (List.getElem?_eq_some_iff.mp hn).1
    have hnT : n ∈ S.there := hperm.mem_iff.mp (List.mem_of_getElem? hn)
    have htake : ms.take (j + 1) = ms.take j ++ [n] := by
      rw [List.take_succ, hn]
      rfl
    refine ⟨rfl, ?_⟩
    refine ⟨_, rfl, _, rfl, dt, _, rfl, DGet.k (k := Sum.inl (n : Int)) (k2 _ _ (k1 _ _ hdtH)), _, rfl, ?_⟩
    by_cases c : n ≤ Kn
    · rw [tkv_get (I.rng hnT).1 c]
      refine iteT ?_
      refine ⟨_, rfl, _, hacc, ?_, fun b o e => by rw [upd_ne (ne_of_none e hDl)]; exact k2 b o e, ?_⟩
      · rw [natV_len]
        have a1 := List.length_filter_le (fun n => decide (n ≤ Kn)) (ms.take j)
        rw [List.length_take] at a1
        have a2 := hperm.length_eq
        exact small1000 (by omega)
      · rw [upd_same, htake, List.filter_append, List.filter_cons, if_pos (decide_eq_true c), List.filter_nil, ← natV_app]
        rfl
    · rw [tkv_none (by omega)]
      refine iteF ?_
      refine ⟨k2, ?_⟩
      rw [htake, List.filter_append, List.filter_cons, if_neg (by simpa using c), List.filter_nil, List.append_nil]
      exact hacc
  rintro H1 ⟨k2, hDl1⟩
  rw [natV_len, List.take_length] at hDl1
  have kH1 : Same H H1 := k1.trans k2
  have htf : ∀ n, n ∈ (ms.filter fun n => decide (n ≤ Kn)) → n ∈ S.there ∧ n ≤ Kn := fun n hn => by
    obtain ⟨a, b⟩ := List.mem_filter.mp hn
    exact ⟨hperm.mem_iff.mp a, of_decide_eq_true b⟩
  have h1T : 1 ∈ S.there := by
    obtain ⟨r, e⟩ := L.hd
    exact mine_in I L.mks (by rw [e]; exact List.mem_cons_self)
  have htfl : 0 < (ms.filter fun n => decide (n ≤ Kn)).length ∧ (ms.filter fun n => decide (n ≤ Kn)).length ≤ 48 := by
    constructor
    · exact List.length_pos_of_mem (List.mem_filter.mpr ⟨hperm.mem_iff.mpr h1T, decide_eq_true L.k1⟩)
    · have a1 := List.length_filter_le (fun n => decide (n ≤ Kn)) ms
      have a2 := hperm.length_eq
      have a3 := I.tlen
      omega
  generalize (ms.filter fun n => decide (n ≤ Kn)) = tf at hDl1 htf htfl
  have W1 : WellAt H1 wl ce := (L.well.same fun b o e => R.fr b o e).same kH1
  have nDw : Dl ≠ wl := fun z => by
    obtain ⟨o, ho⟩ := L.well.some
    have := k1 _ _ (R.fr _ _ ho)
    rw [← z, hDl] at this
    cases this
  -- one
  refine ⟨_, rfl, _, rfl, _, rfl, Dl, _, rfl, .inl (SqL.of hDl1), wl, ce, _, rfl, W1, by rw [natV_len]; omega, by rw [natV_len]; omega, fun v1 w1 hv10 hv11 hw1 => ?_⟩
  rw [natV_len] at hv11
  obtain ⟨n1, hn1, _, hat1⟩ := natV_get hv10 hv11
  obtain ⟨hn1T, hn1K⟩ := htf n1 hn1
  have hD2 : (upd H1 wl (.lst w1)) Dl = some (.lst (natV tf)) := by rw [upd_ne nDw]; exact hDl1
  have W2 := W1.upd hw1
  have kb2 : KB wl H (upd H1 wl (.lst w1)) := (KB.of kH1).trans (KB.well _)
  refine ⟨Dl, _, _, _, rfl, rfl, SqL.of hD2, hat1, ?_⟩
  generalize upd H1 wl (.lst w1) = H2 at hD2 W2 kb2 ⊢
  -- other
  refine ⟨_, rfl, _, rfl, _, rfl, Dl, _, rfl, .inl (SqL.of hD2), wl, ce, _, rfl, W2, by rw [natV_len]; omega, by rw [natV_len]; omega, fun v2 w2 hv20 hv21 hw2 => ?_⟩
  rw [natV_len] at hv21
  obtain ⟨n2, hn2, _, hat2⟩ := natV_get hv20 hv21
  obtain ⟨hn2T, hn2K⟩ := htf n2 hn2
  have hD3 : (upd H2 wl (.lst w2)) Dl = some (.lst (natV tf)) := by rw [upd_ne nDw]; exact hD2
  have W3 := W2.upd hw2
  have kb3 : KB wl H (upd H2 wl (.lst w2)) := kb2.trans (KB.well _)
  refine ⟨Dl, _, _, _, rfl, rfl, SqL.of hD3, hat2, ?_⟩
  generalize upd H2 wl (.lst w2) = H3 at hD3 W3 kb3 ⊢
  -- way
  refine ⟨_, rfl, wl, ce, 8, rfl, W3, by decide, by decide, fun way w3 hw0 hw8 hw3 => ?_⟩
  have W4 := W3.upd hw3
  have kb4 : KB wl H (upd H3 wl (.lst w3)) := kb3.trans (KB.well _)
  generalize upd H3 wl (.lst w3) = H4 at W4 kb4 ⊢
  obtain ⟨F4, L4, _⟩ := L.upto kb4 W4
  have R4 := L4.rep
  have hdt4 := R4.fr _ _ L4.things
  have hmi4 := R4.fr _ _ L4.hmi
  have hr1n := I.rng hn1T
  have hr2n := I.rng hn2T
  have dg1 : ∀ Hx : Hp, Hx dt = some (.dK (tkv S Kn)) → DGet Hx dt (.int (n1 : Int)) (some (S.rf n1)) := fun Hx hx => .inl ⟨_, Sum.inl (n1 : Int), .inl hx, rfl, (tkv_get hr1n.1 hn1K).symm⟩
  refine ⟨_, rfl, rfl, _, rfl, ?_⟩
  refine ite2 (fun _ => ?_) (fun _ => ?_)
  · -- mine.append(one); hall.hold(things[one])
    refine ⟨_, rfl, .inl ⟨rfl, _, SqL.of hmi4⟩, _, rfl, mi, _, _, rfl, rfl, hmi4, by rw [natV_len]; exact small1000 (by omega), ?_⟩
    have R5 := R4.fupd L4.hmi (.lst (natV mine ++ [V.int (n1 : Int)]))
    have e5 : natV mine ++ [V.int (n1 : Int)] = natV (mine ++ [n1]) := natV_app mine [n1]
    rw [e5] at R5 ⊢
    refine ⟨_, rfl, _, _, _, rfl, R5.hall, hf_no_hold _ _, _, rfl, _, rfl, dt, _, rfl, dg1 _ (by rw [upd_ne L4.dtm]; exact hdt4), W, S, _, _, rfl, rfl, R5, .inr ⟨n1, rfl, hr1n⟩, fun S1 H6 R6 hS1 => ?_⟩
    rcases hS1 with ⟨pl, _⟩ | ⟨m, em, hm, rfl⟩
    · exact pl.elim
    · have : n1 = m := I.ij n1 m hr1n.1 hr1n.2 hm.1 hm.2 (V.ref.inj em)
      subst this
      have I6 := inv_hold I hn1T 0 (.inl rfl)
      refine k _ _ _ _ (L4.wmine rfl R6 ?_ L.row (cn_mo _ _ _) (fun m hm => ?_) ?_) (by rw [List.length_append, List.length_singleton]; exact Nat.le_refl _)
      · rw [List.map_append]
        exact inv_perm I6 (List.perm_append_singleton _ _).symm
      · rcases List.mem_append.mp hm with z | z
        · exact L.mks m z
        · rw [List.mem_singleton.mp z]
          exact ⟨hr1n.1, hn1K⟩
      · obtain ⟨r, e⟩ := L.hd
        exact ⟨r ++ [n1], by rw [e]; rfl⟩
  · refine ⟨_, rfl, _, _, rfl, rfl, _, rfl, ?_⟩
    refine ite2 (fun _ => ?_) (fun _ => ?_)
    · refine ⟨_, rfl, mi, _, rfl, .inl (SqL.of hmi4), _, _, rfl, rfl, _, rfl, ?_⟩
      rw [natV_len]
      refine ite2 (fun hgt => ?_) (fun _ => ?_)
      · -- one = mine.pop(..); hall.loose(things[one])
        have hgt' : (1 : Int) < ((mine.length : Nat) : Int) := of_decide_eq_true hgt
        refine ⟨_, rfl, .inl ⟨rfl, _, SqL.of hmi4⟩, _, rfl, _, rfl, mi, _, rfl, .inl (SqL.of hmi4), _, _, rfl, rfl, wl, ce, _, rfl, W4, by rw [natV_len]; omega, by rw [natV_len]; omega, fun v w5 hv0 hv1 hw5 => ?_⟩
        rw [natV_len] at hv1
        obtain ⟨F5, L5, _⟩ := L4.upto (KB.well (.lst w5)) (W4.upd hw5)
        have hmi5 := L5.rep.fr _ _ L5.hmi
        obtain ⟨m, hm, hget, _⟩ := natV_get (l := mine) (v := 1 + v) (by omega) (by omega)
        obtain ⟨hmlo, hmK⟩ := L.mks m hm
        have hmT := mine_in I L.mks hm
        have ej : (1 + v).toNat = v.toNat + 1 := by omega
        rw [ej] at hget
        refine ⟨_, _, rfl, rfl, mi, _, 1 + v, v.toNat + 1, .int (m : Int), rfl, rfl, hmi5, by omega, by omega, ?_, ?_, ?_⟩
        · rw [natV_len]
          simp only [seqIndex?]
          have c1 : ¬ (1 + v < 0) := by omega
          rw [if_neg c1]
          have c2 : (decide (0 ≤ 1 + v) && decide (1 + v < ((mine.length : Nat) : Int))) = true := by
            rw [Bool.and_eq_true]
            exact ⟨decide_eq_true (by omega), decide_eq_true (by omega)⟩
          rw [if_pos c2, ej]
        · unfold natV
          rw [List.getElem?_map, hget]
          rfl
        rw [natV_erase]
        have R6 := L5.rep.fupd L5.hmi (.lst (natV (mine.eraseIdx (v.toNat + 1))))
        have hperm6 := (perm_erase hget).map S.rf
        have I6 : Inv Kn S (S.rf m :: (mine.eraseIdx (v.toNat + 1)).map S.rf) [] [] 0 := inv_perm I hperm6
        refine ⟨_, rfl, _, _, _, rfl, R6.hall, hf_no_loose _ _, _, rfl, _, rfl, dt, _, rfl, dgT _ m (by rw [upd_ne L5.dtm]; exact L5.rep.fr _ _ L5.things) hmT hmK, W, S, _, Kn, _, [], [], S.rf m, ⟨⟨rfl, rfl, rfl⟩, R6, L5.plm _, hu13 S, L.k12⟩, rfl, L.row, I6, fun S' H' R' I' hr' M' => ?_⟩
        refine k _ _ _ _ (L5.wmine rfl R' I' hr' M' (fun q hq => L.mks q (List.mem_of_mem_eraseIdx hq)) ?_) ?_
        · obtain ⟨r, e⟩ := L.hd
          exact ⟨r.eraseIdx v.toNat, by rw [e]; rfl⟩
        · have := List.length_eraseIdx_le mine (v.toNat + 1)
          omega
      · exact r4 Dl n1 n2 way F4 H4 L4 hn1T hn1K hn2T hn2K
    · refine iteF ?_
      exact r4 Dl n1 n2 way F4 H4 L4 hn1T hn1K hn2T hn2K
end
end Snk
namespace Snk
open PySem L2
/-! ## P. the law -/
theorem ef0_no_lay (x : V) (p n o : Addr) : (ef0 x p n o).lookup ("lay" : Str) = none := by kernel_rfl
def mineR (i : Nat) : List Nat := (List.range i).map fun j => j + 1
theorem mineR_succ (i : Nat) : mineR (i + 1) = mineR i ++ [i + 1] := by
  unfold mineR
  rw [List.range_succ, List.map_append]
  rfl
theorem mineR_mem {i m : Nat} (h : m ∈ mineR i) : 1 ≤ m ∧ m ≤ i := by
  obtain ⟨j, hj, rfl⟩ := List.mem_map.mp h
  have := List.mem_range.mp hj
  omega
theorem mineR_len (i : Nat) : (mineR i).length = i := by
  unfold mineR
  rw [List.length_map, List.length_range]
theorem tkv_succ (S : Hs) (i : Nat) : tkv S (i + 1) = tkv S i ++ [((Sum.inl ((i + 1 : Nat) : Int) : Key), S.rf (i + 1))] := by
  unfold tkv
  rw [List.range_succ, List.map_append]
  rfl
theorem tkv_ext {S S' : Hs} {i : Nat} (h : ∀ n, 1 ≤ n → n ≤ i → S'.rf n = S.rf n) : tkv S' i = tkv S i := by
  unfold tkv
  refine List.map_congr_left fun j hj => ?_
  have := List.mem_range.mp hj
  rw [h (j + 1) (by omega) (by omega)]
theorem Rep.hallI {W : Wd} {S : Hs} {F H : Hp} {C CH CE : Addr} (R : Rep W S F H) (i : IsW W C CH CE) : H W.h = some (.ins CH W.hdx (hf W S)) := by
  rw [← i.h]
  exact R.hall
theorem Rep.enI {W : Wd} {S : Hs} {F H : Hp} {C CH CE : Addr} (R : Rep W S F H) (i : IsW W C CH CE) : H W.e = some (.ins CE W.edx (ef W)) := by
  rw [← i.e]
  exact R.en
theorem dV_plans (S : Hs) (z : List (Nat × Addr)) (d : Deed) : dV { S with plans := z } d = dV S d := by cases d <;> rfl
/-- the law's defs and the hall's others -/
structure Lns (K : PySem.W.Frag) (mg : Str → Option Value) (C CH CE : Addr) where
  aHall : Addr
  aEnds : Addr
  aLay : Addr
  aPlan : Addr
  aThings : Addr
  aGone : Addr
  aAsked : Addr
  lM : Addr
  lW : Addr
  lD : Addr
  lP : Addr
  lO : Addr
  lT : Addr
  lK : Addr
  lC : Addr
  lY : Addr
  lS : Addr
  lN : Addr
  dHall : FuncData
  dEnds : FuncData
  dLay : FuncData
  dPlan : FuncData
  dThings : FuncData
  dGone : FuncData
  dAsked : FuncData
  eM : FuncData
  eW : FuncData
  eD : FuncData
  eP : FuncData
  eO : FuncData
  eT : FuncData
  eK : FuncData
  eC : FuncData
  eY : FuncData
  eS : FuncData
  eN : FuncData
  FHall : Fun K "__init__" "Hall.__init__" sHall aHall dHall
  FEnds : Fun K "__init__" "Ends.__init__" sEnds aEnds dEnds
  FLay : Fun K "lay" "Ends.lay" sLay aLay dLay
  FPlan : Fun K "plan" "Ends.plan" sPlan aPlan dPlan
  FThings : Fun K "things" "Hall.things" sThings aThings dThings
  FGone : Fun K "gone" "Hall.gone" sGone aGone dGone
  FAsked : Fun K "asked" "Ends.asked" sAsked aAsked dAsked
  FM : Fun K "_law_mixed" "_law_mixed" lMixed lM eM
  FW : Fun K "_law_well" "_law_well" lWell lW eW
  FD : Fun K "_law_dig" "_law_dig" lDig lD eD
  FP : Fun K "_law_plan" "_law_plan" lPlan lP eP
  FO : Fun K "_law_of_things" "_law_of_things" lOf lO eO
  FT : Fun K "_law_thing" "_law_thing" lThing lT eT
  FK : Fun K "_law_all_known" "_law_all_known" lKnown lK eK
  FC : Fun K "_law_counted" "_law_counted" lCounted lC eC
  FY : Fun K "_law_key" "_law_key" lKey lY eY
  FS : Fun K "_law_step" "_law_step" lStep lS eS
  FN : Fun K "_law_stands" "_law_stands" lStands lN eN
  bHall : Binds K dHall ["self", "ender"] []
  bEnds : Binds K dEnds ["self"] []
  bLay : Binds K dLay ["self", "hall"] []
  bPlan : Binds K dPlan ["self", "thing", "deeds"] []
  bThings : Binds K dThings ["self"] []
  bGone : Binds K dGone ["self"] []
  bAsked : Binds K dAsked ["self"] []
  bM : Binds K eM ["_law_number", "_law_k"] []
  bW : Binds K eW ["_law_script", "_law_first"] []
  bD : Binds K eD ["_law_well_here", "_law_most"] []
  bP : Binds K eP ["_law_well_here", "_law_many"] []
  bO : Binds K eO ["_law_things", "_law_deed"] []
  bT : Binds K eT ["_law_value"] []
  bK : Binds K eK ["_law_things"] []
  bC : Binds K eC ["_law_known", "_law_there", "_law_mine"] []
  bY : Binds K eY ["_law_well_here"] []
  bS : Binds K eS ["_law_well_here", "_law_hall", "_law_things", "_law_mine"] []
  bN : Binds K eN ["_law_hall", "_law_ender", "_law_things", "_law_mine"] []
  MHall : Mk K CH aHall
  MEnds : Mk K CE aEnds
  mLay : Meth K CE "lay" aLay
  mPlan : Meth K CE "plan" aPlan
  mThings : Meth K CH "things" aThings
  mGone : Meth K CH "gone" aGone
  mAsked : Meth K CE "asked" aAsked
  gHall : mg "Hall" = some (.ref CH)
  gEnds : mg "Ends" = some (.ref CE)
  gM : mg "_law_mixed" = some (.ref lM)
  gW : mg "_law_well" = some (.ref lW)
  gD : mg "_law_dig" = some (.ref lD)
  gP : mg "_law_plan" = some (.ref lP)
  gO : mg "_law_of_things" = some (.ref lO)
  gT : mg "_law_thing" = some (.ref lT)
  gK : mg "_law_all_known" = some (.ref lK)
  gC : mg "_law_counted" = some (.ref lC)
  gY : mg "_law_key" = some (.ref lY)
  gS : mg "_law_step" = some (.ref lS)
  gN : mg "_law_stands" = some (.ref lN)
  zAbs : mg "abs" = none
  zTuple : mg "tuple" = none
  zDict : mg "dict" = none
  zRange : mg "range" = none
  zSet : mg "set" = none
section
variable {P : Program} {w : World} {K : PySem.W.Frag} {mg : Str → Option Value} {base : Heap} {C CH CE : Addr}
def spLaw (K : PySem.W.Frag) : Sp := fun vs H Q _ => ∃ (a : Addr) (ns : List Int), vs = [.ref a] ∧ SqL K H a (ns.map V.int) ∧ ns.length ≤ 63 ∧ ∀ H', Q (.bl true) H'
abbrev nLaw : List Str := ["_law_script", "_law_well_here", "_law_many", "_law_ender", "_law_hall", "_law_things", "_law_mine", "_law_n", "_law_k", "_law_deed"]
theorem scLaw : FnScope nLaw ["_law_script"] (defScope lLaw) := ⟨rfl, rfl, rfl, by decide +kernel, rfl, by decide +kernel, by decide +kernel⟩
theorem ok_law {f : Addr} {fd : FuncData} (F : Fun K "law" "law" lLaw f fd) (T : Txt K mg C CH CE) (N : Fns K C CH CE) (L : Lns K mg C CH CE) : FnOk P w K mg base CX0 110 f fd ["_law_script"] (spLaw K) := by
  have GDig : FnOk P w K mg base CX0 2 L.lD L.eD ["_law_well_here", "_law_most"] spDig := ok_dig L.FD L.FM L.bM L.gM T.len L.zAbs
  have GWell : FnOk P w K mg base CX0 1 L.lW L.eW ["_law_script", "_law_first"] (spWell K) := ok_well L.FW L.zAbs
  have GKey : FnOk P w K mg base CX0 3 L.lY L.eY ["_law_well_here"] spKey := ok_key L.FY GDig L.bD L.FD.kp L.gD
  have GOf : FnOk P w K mg base CX0 1 L.lO L.eO ["_law_things", "_law_deed"] spOf := ok_of L.FO T.isi L.zTuple
  have GPlanL : FnOk P w K mg base CX0 4 L.lP L.eP ["_law_well_here", "_law_many"] spPlanL := ok_planL L.FP GDig L.bD L.FD.kp L.gD GKey L.bY L.FY.kp L.gY L.zRange
  have GKnown : FnOk P w K mg base CX0 2 L.lK L.eK ["_law_things"] (spKnown C CH CE) := ok_known L.FK T L.FT L.bT L.gT L.zDict
  have GCounted : FnOk P w K mg base CX0 2 L.lC L.eC ["_law_known", "_law_there", "_law_mine"] (spCounted C CH CE) := ok_counted L.FC T L.FT L.bT L.gT L.zDict
  have GStep : FnOk P w K mg base CX0 109 L.lS L.eS ["_law_well_here", "_law_hall", "_law_things", "_law_mine"] (spStep C CH CE) := ok_step L.FS T N GDig L.bD L.FD.kp L.gD GKey L.bY L.FY.kp L.gY L.FThings L.bThings L.mThings hf_no_things
  have GStands : FnOk P w K mg base CX0 3 L.lN L.eN ["_law_hall", "_law_ender", "_law_things", "_law_mine"] (spStands C CH CE) :=
    ok_stands L.FN T GKnown L.bK L.FK.kp L.gK GCounted L.bC L.FC.kp L.gC L.FThings L.bThings L.mThings L.FGone L.bGone L.mGone L.FAsked L.bAsked L.mAsked L.zRange L.zSet hf_no_things hf_no_gone ef_no_asked
  have GHall : FnOk P w K mg base CX0 1 L.aHall L.dHall ["self", "ender"] (spHall CH) := ok_hall L.FHall T
  have GEnds : FnOk P w K mg base CX0 1 L.aEnds L.dEnds ["self"] (spEnds CE) := ok_ends L.FEnds T
  have GLay : FnOk P w K mg base CX0 1 L.aLay L.dLay ["self", "hall"] (spLay CE) := ok_lay L.FLay T
  have GPlan : FnOk P w K mg base CX0 1 L.aPlan L.dPlan ["self", "thing", "deeds"] (spPlan C CH CE) := ok_plan L.FPlan T
  have GMake : FnOk P w K mg base CX0 3 N.aMake N.dMake ["self", "form", "own"] (spMake C CH CE) := ok_make T N
  have GHold : FnOk P w K mg base CX0 1 N.aHold N.dHold ["self", "value"] (spHoldC C) := ok_holdC T N
  have GThings : FnOk P w K mg base CX0 1 L.aThings L.dThings ["self"] (spThings C CH CE) := ok_things L.FThings T
  refine F.ok scLaw (fun vs H Q E h => ?_) (fun cdv A outer s H vs Q E hr h => ?_)
  · obtain ⟨a, ns, rfl, _⟩ := h
    rfl
  obtain ⟨a, ns, rfl, hS, hlen, k⟩ := h
  have hu := hu_of hr
  have hr1 : Room 1 _ := hr.mono (by decide)
  have hr2 : Room 2 _ := hr.mono (by decide)
  have hr3 : Room 3 _ := hr.mono (by decide)
  have hr4 : Room 4 _ := hr.mono (by decide)
  refine ⟨_, pss_cons (ps_set (i := 1) scLaw.nd rfl (Or.inl rfl) (pe_call GWell hr1 rfl L.gW L.FW.kp L.bW .nil pass0 (pa_cons (pv 0) (pa_cons pe_int pa_nil))))
    (pss_cons (ps_set (i := 2) scLaw.nd rfl (Or.inl rfl) (pe_op op_add pe_int (pe_call GDig hr2 rfl L.gD L.FD.kp L.bD .nil pass0 (pa_cons (pv 1) (pa_cons pe_int pa_nil)))))
    (pss_cons (ps_set (i := 3) scLaw.nd rfl (Or.inl rfl) (pe_make0 L.MEnds GEnds hr2 rfl L.gEnds L.bEnds .nil pass0))
    (pss_cons (ps_set (i := 4) scLaw.nd rfl (Or.inl rfl) (pe_make L.MHall GHall hr2 rfl L.gHall L.bHall .nil pass0 (pa_cons (pv 3) pa_nil)))
    (pss_cons (ps_expr (pe_meth (pv 3) T.clE L.mLay GLay hr1 L.bLay .nil pass0 (pa_cons (pv 4) pa_nil)))
    (pss_cons (ps_set (i := 5) scLaw.nd rfl (Or.inr rfl) pe_dnewK)
    (pss_cons (ps_set (i := 6) scLaw.nd rfl (Or.inl rfl) (pe_lst pa_nil))
    (pss_cons (ps_for PassesOwn.never rfl (pi_range2 rfl L.zRange (pa_cons pe_int (pa_cons (pe_op op_add (pv 2) pe_int) pa_nil))) (pg_name (i := 7) scLaw.nd rfl (Or.inl rfl))
      (pss_cons (ps_dput hu (pv 5) (pv 7) (pe_meth (pv 4) T.clH N.mMake GMake hr3 N.bMake .nil pass0 (pa_cons pe_str (pa_cons pe_non pa_nil))) rfl)
      (pss_cons (ps_expr (pe_meth (pv 4) T.clH N.mHold GHold hr1 N.bHold .nil pass0 (pa_cons (pe_dget hu (pv 5) (pv 7) (fun _ _ => rfl)) pa_nil)))
      (pss_one (ps_expr (pe_bm PySem.F.plainAttrs_list PySem.F.slot_list_append PySem.F.type_list_append mt_append (pv 6) (pa_cons (pv 7) pa_nil)))))))
    (pss_cons (ps_for PassesOwn.never rfl (pi_range2 rfl L.zRange (pa_cons pe_int (pa_cons (pe_op op_add (pv 2) pe_int) pa_nil))) (pg_name (i := 7) scLaw.nd rfl (Or.inl rfl))
      (pss_one (ps_expr (pe_meth (pv 3) T.clE L.mPlan GPlan hr1 L.bPlan .nil pass0 (pa_cons (pe_dget hu (pv 5) (pv 7) (fun _ _ => rfl)) (pa_cons
        (pe_lc (own := [("_law_deed", 9)]) (g := gName 9) (tt := tYes) rfl scLaw.nd (pi_list (pe_call GPlanL hr4 rfl L.gP L.FP.kp L.bP .nil pass0 (pa_cons (pv 1) (pa_cons (pv 2) pa_nil)))) (blkOk_by (N := nLaw) (sc := defScope lLaw) (by decide +kernel)) (fun _ _ _ _ _ => pg_name (i := 9) scLaw.nd rfl (Or.inl rfl)) (fun _ _ _ _ _ => pts_nil)
          (fun _ _ _ _ _ => pe_call GOf hr1 rfl L.gO L.FO.kp L.bO .nil pass0 (pa_cons (pv 5) (pa_cons (pv 9) pa_nil)))) pa_nil))))))
    (pss_cons (ps_for PassesOwn.never rfl (pi_range1 rfl L.zRange (pa_cons (pe_op op_add pe_int (pe_call GDig hr2 rfl L.gD L.FD.kp L.bD .nil pass0 (pa_cons (pv 1) (pa_cons pe_int pa_nil)))) pa_nil)) (pg_name (i := 8) scLaw.nd rfl (Or.inl rfl))
      (pss_cons (ps_expr (pe_call GStep hr rfl L.gS L.FS.kp L.bS .nil pass0 (pa_cons (pv 1) (pa_cons (pv 4) (pa_cons (pv 5) (pa_cons (pv 6) pa_nil))))))
      (pss_one (ps_if (pt_not (pt_val (pe_call GStands hr3 rfl L.gN L.FN.kp L.bN .nil pass0 (pa_cons (pv 4) (pa_cons (pv 3) (pa_cons (pv 5) (pa_cons (pv 6) pa_nil))))))) pss_never pss_nil))))
    (pss_one (ps_ret (pe_cmpR op_in_seq pe_int (pe_meth0 (pv 4) T.clH L.mThings GThings hr1 L.bThings .nil pass0) rfl)))))))))))), ?_⟩
  -- the well, how many
  refine ⟨_, rfl, a, ns, rfl, hS, hlen, fun wl ce H1 k1 hwl hce W1 => ?_⟩
  refine ⟨_, rfl, wl, ce, 11, rfl, W1, by decide, by decide, fun v w1 hv0 hv1 hw1 => ?_⟩
  obtain ⟨j, rfl⟩ : ∃ j : Nat, v = (j : Int) := ⟨v.toNat, by omega⟩
  obtain ⟨Kn, hKn⟩ : ∃ Kn : Nat, Kn = j + 2 := ⟨_, rfl⟩
  have hK2 : 2 ≤ Kn := by omega
  have hK12 : Kn ≤ 12 := by omega
  refine ⟨_, _, rfl, rfl, ?_⟩
  have eK : (2 : Int) + (j : Int) = (Kn : Int) := by omega
  simp only [eK]
  have W2 := W1.upd hw1
  have nwa : a ≠ wl ∨ True := .inr trivial
  generalize upd H1 wl (.lst w1) = H2 at W2 ⊢
  -- the ender
  intro x dx nx ndx nex
  refine ⟨x, dx, rfl, upd_same, fun pl nm ho H3 hpl hnm hho nno e1 e2 e3 e4 kk => ⟨rfl, ?_⟩⟩
  have k23 : Same H2 H3 := Same.made nx ndx kk
  have hpl2 : H2 pl = none := by
    have npx : pl ≠ x := fun z => by rw [z, upd_same] at hpl; cases hpl
    have npd : pl ≠ dx := fun z => by rw [z, upd_ne nex, upd_same] at hpl; cases hpl
    rw [upd_ne npx, upd_ne npd] at hpl
    exact hpl
  have hnm2 : H2 nm = none := by
    have npx : nm ≠ x := fun z => by rw [z, upd_same] at hnm; cases hnm
    have npd : nm ≠ dx := fun z => by rw [z, upd_ne nex, upd_same] at hnm; cases hnm
    rw [upd_ne npx, upd_ne npd] at hnm
    exact hnm
  have hho2 : H2 ho = none := by
    have npx : ho ≠ x := fun z => by rw [z, upd_same] at hho; cases hho
    have npd : ho ≠ dx := fun z => by rw [z, upd_ne nex, upd_same] at hho; cases hho
    rw [upd_ne npx, upd_ne npd] at hho
    exact hho
  -- the hall
  refine ⟨_, rfl, ?_⟩
  intro h hdx nh nhd nhe
  refine ⟨h, hdx, x, rfl, upd_same, fun t lf H4 ht hlf g1 g2 g3 kg => ⟨rfl, ?_⟩⟩
  have k34 : Same H3 H4 := Same.made nh nhd kg
  have ht3 : H3 t = none := by
    have npx : t ≠ h := fun z => by rw [z, upd_same] at ht; cases ht
    have npd : t ≠ hdx := fun z => by rw [z, upd_ne nhe, upd_same] at ht; cases ht
    rw [upd_ne npx, upd_ne npd] at ht
    exact ht
  have hlf3 : H3 lf = none := by
    have npx : lf ≠ h := fun z => by rw [z, upd_same] at hlf; cases hlf
    have npd : lf ≠ hdx := fun z => by rw [z, upd_ne nhe, upd_same] at hlf; cases hlf
    rw [upd_ne npx, upd_ne npd] at hlf
    exact hlf
  have e44 := k34 _ _ e4
  -- ender.lay(hall)
  refine ⟨_, rfl, x, dx, _, rfl, e44, ef0_no_lay _ _ _ _, _, rfl, x, dx, h, pl, nm, ho, rfl, e44, ?_⟩
  have nhx : h ≠ x := (ne_of_none e4 nh).symm
  have h5x : (upd H4 x (.ins CE dx (ef0 (.ref h) pl nm ho))) x = some (.ins CE dx (ef0 (.ref h) pl nm ho)) := upd_same
  have k5 : ∀ b o, H4 b = some o → b ≠ x → (upd H4 x (.ins CE dx (ef0 (.ref h) pl nm ho))) b = some o := fun b o e n => by rw [upd_ne n]; exact e
  generalize upd H4 x (.ins CE dx (ef0 (.ref h) pl nm ho)) = H5 at h5x k5 ⊢
  obtain ⟨W, hW⟩ : ∃ W : Wd, W = ⟨C, CH, CE, h, hdx, t, lf, x, dx, pl, nm, ho⟩ := ⟨_, rfl⟩
  have isW : IsW W C CH CE := by rw [hW]; exact ⟨rfl, rfl, rfl⟩
  have tx : t ≠ x := (ne_of_none e4 ht3).symm
  have lx : lf ≠ x := (ne_of_none e4 hlf3).symm
  have plx : pl ≠ x := ne_of e1 e4 (by intro z; cases z)
  have nmx : nm ≠ x := ne_of e2 e4 (by intro z; cases z)
  have hox : ho ≠ x := ne_of e3 e4 (by intro z; cases z)
  have R0 : Rep W Hs0 (fun _ => none) H5 := by
    rw [hW]
    exact rep0 (k5 _ _ g3 nhx) (k5 _ _ g1 tx) (k5 _ _ g2 lx) h5x (k5 _ _ (k34 _ _ e1) plx) (k5 _ _ (k34 _ _ e2) nmx) (k5 _ _ (k34 _ _ e3) hox) nhx (ne_of_none e1 ht3).symm (ne_of_none e2 hlf3).symm (ne_of_none e3 hlf3).symm nno
  have k25 : Same H2 H5 := fun b o e => k5 b o (k34 _ _ (k23 _ _ e)) (ne_of_none e nx)
  have fresh : ∀ b o r, H2 b = some o → adr W Hs0 r ≠ some b := fun b o r e z => by
    have nb : ∀ y, H2 y = none → y ≠ b := fun y hy q => by rw [q, e] at hy; cases hy
    have hh2 : H2 h = none := k23.free nh
    have ht2 : H2 t = none := k23.free ht3
    have hl2 : H2 lf = none := k23.free hlf3
    rw [hW] at z
    cases r with
    | hall => exact nb h hh2 (Option.some.inj z)
    | thd => exact nb t ht2 (Option.some.inj z)
    | lf => exact nb lf hl2 (Option.some.inj z)
    | en => exact nb x nx (Option.some.inj z)
    | pl => exact nb pl hpl2 (Option.some.inj z)
    | nm => exact nb nm hnm2 (Option.some.inj z)
    | ho => exact nb ho hho2 (Option.some.inj z)
    | th n => 
      have q : adr (⟨C, CH, CE, h, hdx, t, lf, x, dx, pl, nm, ho⟩ : Wd) Hs0 (.th n) = none := if_neg fun y => by
        have : n ≤ 0 := y.2
        omega
      rw [q] at z
      cases z
    | pd n =>
      have q : adr (⟨C, CH, CE, h, hdx, t, lf, x, dx, pl, nm, ho⟩ : Wd) Hs0 (.pd n) = none := if_neg fun y => by
        have : n ≤ 0 := y.2
        omega
      rw [q] at z
      cases z
    | row => cases z
  have R2 : Rep W Hs0 H2 H5 := ⟨R0.at_, R0.inj, fun b o e => k25 b o e, fun b o r e => fresh b o r e⟩
  have eh : h = W.h := by rw [hW]
  have ex : x = W.e := by rw [hW]
  rw [eh, ex]
  clear k5 h5x
  -- things, mine
  intro dt hdt
  have R3 := R2.fnew hdt (.dK [])
  have hdt2 : H2 dt = none := R2.ffree hdt
  refine ⟨Nat.zero_le _, fun mi hmi => ?_⟩
  have R4 := R3.fnew hmi (.lst [])
  have hmi3 : (upd H2 dt (.dK [])) mi = none := R3.ffree hmi
  have ndm : dt ≠ mi := fun z => by rw [← z, upd_same] at hmi3; cases hmi3
  have hmi2 : H2 mi = none := by
    rw [upd_ne ndm.symm] at hmi3
    exact hmi3
  have W4 : WellAt (upd (upd H2 dt (.dK [])) mi (.lst [])) wl ce := (W2.same (same_new hdt2 _)).same (same_new hmi3 _)
  have hdt4 : (upd (upd H2 dt (.dK [])) mi (.lst [])) dt = some (.dK []) := by rw [upd_ne ndm, upd_same]
  have hmi4 : (upd (upd H2 dt (.dK [])) mi (.lst [])) mi = some (.lst []) := upd_same
  have nce : mi ≠ ce := fun z => by
    obtain ⟨_, cs, _, _, q3, _⟩ := W2
    rw [← z, hmi2] at q3
    cases q3
  have nmw : mi ≠ wl := fun z => by
    obtain ⟨o, q⟩ := W2.some
    rw [← z, hmi2] at q
    cases q
  have ndw : dt ≠ wl := fun z => by
    obtain ⟨o, q⟩ := W2.some
    rw [← z, hdt2] at q
    cases q
  have ndc : dt ≠ ce := fun z => by
    obtain ⟨_, cs, _, _, q3, _⟩ := W2
    rw [← z, hdt2] at q3
    cases q3
  generalize upd (upd H2 dt (.dK [])) mi (.lst []) = F4 at R4 W4 hdt4 hmi4
  -- the things are made
  refine ⟨_, rfl, _, _, rfl, rfl, 1, (Kn : Int) + 1, rfl, ⟨by decide, by decide, by omega, by omega⟩, ?_⟩
  have eN : ((Kn : Int) + 1 - 1).toNat = Kn := by omega
  rw [eN]
  refine for_range (lo := 1) (n := Kn) (fun i σ Hc => ∃ (S : Hs) (Fc : Hp) (b : Option V), σ = [some (.ref a), some (.ref wl), some (.int (Kn : Int)), some (.ref W.e), some (.ref W.h), some (.ref dt), some (.ref mi), b, none, none] ∧ Rep W S Fc Hc ∧ WellAt Fc wl ce ∧
      Fc dt = some (.dK (tkv S i)) ∧ Fc mi = some (.lst (natV (mineR i))) ∧ Inv i S ((mineR i).map S.rf) [] [] 0 ∧ S.many = i ∧ S.row = none ∧ S.plans = [])
    ⟨Hs0, F4, none, rfl, R4, W4, hdt4, hmi4, inv0, rfl, rfl, rfl⟩ ?_ ?_
  · rintro i σ Hc hi ⟨S, Fc, b, rfl, Rc, Wc, hdtc, hmic, I, hmany, hrow, hpl0⟩
    have ht48 : S.there.length < 1000 := by
      have := I.tlen
      omega
    refine ⟨_, rfl, _, _, _, rfl, Rc.hallI isW, hf_no_make _ _, W, S, Fc, "being", isW, rfl, Rc, fun n hn => (I.rng hn).2, fun n hn => (I.rng (I.wt n (List.mem_append_right _ hn))).2, ht48, fun p d q H6 hp R6 => ?_⟩
    have ei : (1 : Int) + (i : Int) = ((i + 1 : Nat) : Int) := by omega
    have em : S.many + 1 = i + 1 := by omega
    have rfo : ∀ n, 1 ≤ n → n ≤ i → (S.made p d q "being").rf n = S.rf n := fun n _ h2 => by
      unfold Hs.rf
      rw [made_old S p d q "being" (by omega)]
    have rfn : (S.made p d q "being").rf (i + 1) = .ref p := by
      unfold Hs.rf
      rw [← em, made_new]
    have hdt6 := R6.fr _ _ hdtc
    rw [ei]
    refine ⟨_, rfl, _, rfl, dt, _, rfl, DPut.k (k := Sum.inl ((i + 1 : Nat) : Int)) hdt6 (by rw [tkv_len]; exact small1000 (by omega)), ?_⟩
    have hput : putK (tkv S i) (Sum.inl ((i + 1 : Nat) : Int)) (.ref p) = tkv (S.made p d q "being") (i + 1) := by
      rw [putK_new _ (tkv_none (by omega)), tkv_succ, rfn, tkv_ext rfo]
    rw [hput]
    have R7 := R6.fupd hdtc (.dK (tkv (S.made p d q "being") (i + 1)))
    have hn1 : 1 ≤ i + 1 ∧ i + 1 ≤ (S.made p d q "being").many := ⟨by omega, by rw [← em]; exact Nat.le_refl _⟩
    have hdt7 : (upd H6 dt (.dK (tkv (S.made p d q "being") (i + 1)))) dt = some (.dK (tkv (S.made p d q "being") (i + 1))) := upd_same
    refine ⟨_, rfl, _, _, _, rfl, R7.hallI isW, hf_no_hold _ _, _, rfl, _, rfl, dt, (S.made p d q "being").rf (i + 1), rfl, .inl ⟨_, Sum.inl ((i + 1 : Nat) : Int), .inl hdt7, rfl, (tkv_get hn1.1 (Nat.le_refl _)).symm⟩,
      W, S.made p d q "being", _, _, isW.c, rfl, R7, .inr ⟨i + 1, rfl, hn1⟩, fun S1 H8 R8 hS1 => ?_⟩
    rcases hS1 with ⟨pl0, _⟩ | ⟨m, em2, hm, rfl⟩
    · exact pl0.elim
    have hnp : ∀ m, 1 ≤ m → m ≤ S.many → (S.th m).ad ≠ p := fun m a1 a2 e => by
      have z := Rc.th ⟨a1, a2⟩
      rw [e, hp] at z
      cases z
    have I1 : Inv (i + 1) (S.made p d q "being") ((mineR i).map S.rf) [] [] (S.many + 1) := inv_made I hnp (by omega) (by omega) (.inr hmany) (by
      have := unE_le (i + 1) (S.made p d q "being")
      omega)
    rw [em] at I1
    have emi : i + 1 = m := I1.ij (i + 1) m hn1.1 hn1.2 hm.1 hm.2 (V.ref.inj em2)
    subst emi
    have hT1 : i + 1 ∈ (S.made p d q "being").there := by
      show i + 1 ∈ S.there ++ [S.many + 1]
      rw [em]
      exact List.mem_append_right _ List.mem_cons_self
    have I2 := inv_hold I1 hT1 0 (.inr rfl)
    have hmi8 : (upd Fc dt (.dK (tkv (S.made p d q "being") (i + 1)))) mi = some (.lst (natV (mineR i))) := by rw [upd_ne ndm.symm]; exact hmic
    have hmiH := R8.fr _ _ hmi8
    have erf : ((S.made p d q "being").cn (i + 1) (((S.made p d q "being").th (i + 1)).count + 1)).rf = (S.made p d q "being").rf := rf_fun (by rfl)
    refine ⟨_, rfl, .inl ⟨rfl, _, SqL.of hmiH⟩, _, rfl, mi, _, _, rfl, rfl, hmiH, by rw [natV_len, mineR_len]; exact small1000 (by omega), ?_⟩
    have R9 := R8.fupd hmi8 (.lst (natV (mineR i) ++ [V.int ((i + 1 : Nat) : Int)]))
    have e9 : natV (mineR i) ++ [V.int ((i + 1 : Nat) : Int)] = natV (mineR (i + 1)) := by
      rw [mineR_succ, ← natV_app]
      rfl
    rw [e9] at R9 ⊢
    refine ⟨_, _, _, rfl, R9, ?_, ?_, upd_same, ?_, em, hrow, hpl0⟩
    · obtain ⟨w9, cs, q1, q2, q3, q4⟩ := Wc
      exact ⟨w9, cs, by rw [upd_ne nmw.symm, upd_ne ndw.symm]; exact q1, q2, by rw [upd_ne nce.symm, upd_ne ndc.symm]; exact q3, q4⟩
    · rw [upd_ne ndm, upd_same]
      have : tkv ((S.made p d q "being").cn (i + 1) (((S.made p d q "being").th (i + 1)).count + 1)) (i + 1) = tkv (S.made p d q "being") (i + 1) := tkv_ext fun n _ _ => by rw [erf]
      rw [this]
    · rw [mineR_succ, List.map_append, erf]
      have e10 : (mineR i).map (S.made p d q "being").rf = (mineR i).map S.rf := List.map_congr_left fun n hn => rfo n (mineR_mem hn).1 (mineR_mem hn).2
      rw [e10]
      exact inv_perm I2 (List.perm_append_singleton _ _).symm
  · rintro σ Hc ⟨S, Fc, b, rfl, Rc, Wc, hdtc, hmic, I, hmany, hrow, hpl0⟩
    have L0 : LSt C CH CE W S Fc Hc Kn wl ce dt mi (mineR Kn) := ⟨isW, Rc, fun p hp => (by rw [hpl0] at hp; cases hp), Wc, hdtc, hmic, I, hrow, hK12, by omega, fun m hm => mineR_mem hm, ⟨(List.range (Kn - 1)).map fun j => j + 1 + 1, by
      obtain ⟨z, rfl⟩ : ∃ z, Kn = z + 1 := ⟨Kn - 1, by omega⟩
      unfold mineR
      rw [List.range_succ_eq_map, List.map_cons, List.map_map]
      rfl⟩, nce⟩
    clear R0 R2 R3 R4 fresh
    -- the plans
    refine ⟨_, rfl, _, _, rfl, rfl, 1, (Kn : Int) + 1, rfl, ⟨by decide, by decide, by omega, by omega⟩, ?_⟩
    rw [eN]
    refine for_range (lo := 1) (n := Kn) (fun i σ Hc => ∃ (S : Hs) (Fc : Hp) (b : Option V), σ = [some (.ref a), some (.ref wl), some (.int (Kn : Int)), some (.ref W.e), some (.ref W.h), some (.ref dt), some (.ref mi), b, none, none] ∧ LSt C CH CE W S Fc Hc Kn wl ce dt mi (mineR Kn) ∧
        S.plans.length = i ∧ ∀ p, p ∈ S.plans → p.1 ≤ i)
      ⟨S, Fc, _, rfl, L0, by rw [hpl0]; rfl, fun p hp => by rw [hpl0] at hp; cases hp⟩ ?_ ?_
    · rintro i σ Hd hi ⟨S, Fd, b, rfl, L1, hpl, hpi⟩
      refine ⟨_, rfl, _, _, _, rfl, L1.rep.enI isW, ef_no_plan _, ?_⟩
      have ei : (1 : Int) + (i : Int) = ((i + 1 : Nat) : Int) := by omega
      rw [ei]
      refine ⟨_, rfl, _, rfl, dt, S.rf (i + 1), rfl, .inl ⟨_, Sum.inl ((i + 1 : Nat) : Int), .inl (L1.rep.fr _ _ L1.things), rfl, (tkv_get (by omega) (by omega)).symm⟩, ?_⟩
      have k0 : KB wl Hd Hd := KB.refl wl Hd
      have Wd1 : WellAt Hd wl ce := L1.well.same fun b o e => L1.rep.fr b o e
      refine ⟨_, rfl, _, rfl, wl, ce, Kn, rfl, Wd1, by omega, hK12, fun Lp ts H6 kb1 W6 hL0 hts3 hLl hpd => ?_⟩
      obtain ⟨F6, L6, _⟩ := L1.upto kb1 W6
      refine ⟨Lp, rfl, ⟨_, SqL.of hLl⟩, fun D hD => ?_⟩
      have hxs : (ts.map fun t => V.ref t.1).length = ts.length := List.length_map _
      refine lc_list (K := K) (a := Lp) (xs := ts.map fun t => V.ref t.1) (fun j H2 => Same H6 H2 ∧ ∃ us : List (Addr × Deed), us.length = j ∧ H2 D = some (.lst (us.map fun t => V.ref t.1)) ∧ ∀ u, u ∈ us → H6 u.1 = none ∧ dOk Kn u.2 ∧ H2 u.1 = some (.tup (dV S u.2)))
        ⟨same_new hD _, [], rfl, upd_same, fun u hu => nomatch hu⟩ (fun j H2 _ h2 => SqL.of (h2.1 _ _ hLl)) ?_ ?_
      · intro j x H2 hj hP
        obtain ⟨k2, us, hul, huD, hus⟩ := hP
        obtain ⟨t, ht, rfl⟩ : ∃ t, t ∈ ts ∧ V.ref t.1 = x := List.mem_map.mp (List.mem_of_getElem? hj)
        have hjl : j < ts.length := by
          have := (List.getElem?_eq_some_iff.mp hj).1
          omega
        refine ⟨rfl, ?_⟩
        refine tYes_of ?_
        refine iteT ?_
        refine ⟨_, rfl, _, rfl, dt, t.1, S, Kn, tkv S Kn, t.2, rfl, k2 _ _ (L6.rep.fr _ _ L6.things), fun n n1 n2 => tkv_get n1 n2, (hpd t ht).mo (fun b o e => k2 b _ e), fun t' H3 k3 ht' e3 => ?_⟩
        refine ⟨_, k3 _ _ huD, small1000 (by rw [List.length_map]; omega), ?_⟩
        have nD : t' ≠ D := (ne_of_none huD ht').symm
        refine ⟨fun b o e => by rw [upd_ne (ne_of_none e hD)]; exact k3 _ _ (k2 b o e), us ++ [(t', t.2)], by rw [List.length_append, hul]; rfl, by rw [upd_same, List.map_append]; rfl, fun u hu => ?_⟩
        rcases List.mem_append.mp hu with hu | hu
        · obtain ⟨a1, a2, a3⟩ := hus u hu
          have a4 : u.1 ≠ D := ne_of a3 huD (by intro z; cases z)
          exact ⟨a1, a2, by rw [upd_ne a4]; exact k3 _ _ a3⟩
        · obtain rfl := List.mem_singleton.mp hu
          exact ⟨k2.free ht', (hpd t ht).ok, by rw [upd_ne nD]; exact e3⟩
      · rintro H7 ⟨k7, us, hul, huD, hus⟩
        obtain ⟨F7, L7, hnew⟩ := L6.upto (KB.of k7) (W6.same k7)
        refine ⟨W, S, F7, i + 1, D, us.map fun t => V.ref t.1, isW, rfl, L7.rep, ⟨by omega, by have := L7.inv.km; omega⟩, huD, fun p hp z => ?_, by omega, fun a' H8 ha R8 => ?_⟩
        · have := hpi p hp
          omega
        have ha7 : F7 a' = none := L7.rep.ffree ha
        have k78 : Same F7 (upd F7 a' (.lst (us.map fun t => V.ref t.1))) := same_new ha7 _
        refine ⟨{ S with plans := S.plans ++ [(i + 1, a')] }, _, _, rfl, ⟨isW, R8, ?_, L7.well.same k78, k78 _ _ L7.things, k78 _ _ L7.hmi, inv_plans L7.inv _, L7.row, L7.k12, L7.k1, L7.mks, L7.hd, L7.nce⟩, by rw [List.length_append, hpl]; rfl, fun p hp => ?_⟩
        · intro p hp
          rcases List.mem_append.mp hp with hp | hp
          · obtain ⟨r1, ts0, r2, r3, r4⟩ := L7.pl p hp
            exact ⟨r1, ts0, r2, k78 _ _ r3, fun t ht => ⟨(r4 t ht).1, by rw [dV_plans]; exact k78 _ _ (r4 t ht).2⟩⟩
          · obtain rfl := List.mem_singleton.mp hp
            refine ⟨⟨by omega, by omega⟩, us, by rw [hul, hxs]; exact hts3, upd_same, fun u hu => ?_⟩
            obtain ⟨a1, a2, a3⟩ := hus u hu
            exact ⟨a2, by rw [dV_plans]; exact k78 _ _ (hnew _ _ a1 a3)⟩
        · rcases List.mem_append.mp hp with hp | hp
          · have := hpi p hp
            omega
          · obtain rfl := List.mem_singleton.mp hp
            exact Nat.le_refl _
    · rintro σ Hd ⟨S, Fd, b, rfl, L1, _, _⟩
      -- the steps
      refine ⟨_, rfl, wl, ce, 40, rfl, L1.well.same fun b o e => L1.rep.fr b o e, by decide, by decide, fun v w2 hv0 hv1 hw2 => ?_⟩
      obtain ⟨F2, L2', _⟩ := L1.upto (KB.well (.lst w2)) ((L1.well.same fun b o e => L1.rep.fr b o e).upd hw2)
      refine ⟨_, _, rfl, rfl, 1 + v, rfl, by omega, by omega, ?_⟩
      refine for_range (lo := 0) (n := (1 + v).toNat) (fun i σ Hc => ∃ (S : Hs) (Fc : Hp) (mine : List Nat) (b7 b : Option V), σ = [some (.ref a), some (.ref wl), some (.int (Kn : Int)), some (.ref W.e), some (.ref W.h), some (.ref dt), some (.ref mi), b7, b, none] ∧ LSt C CH CE W S Fc Hc Kn wl ce dt mi mine ∧ mine.length ≤ Kn + i)
        ⟨S, F2, _, _, _, rfl, L2', by rw [mineR_len]; exact Nat.le_refl _⟩ ?_ ?_
      · rintro i σ Hc hi ⟨S, Fc, mine, b7, b8, rfl, L3, hml⟩
        refine ⟨_, rfl, _, rfl, _, rfl, _, rfl, W, S, Fc, Kn, wl, ce, dt, mi, mine, rfl, L3, by omega, fun S' F' H' mine' L4 hl4 => ?_⟩
        refine ⟨_, rfl, _, rfl, _, rfl, _, rfl, W, S', F', Kn, dt, mi, mine', isW, rfl, L4.rep, L4.inv, L4.row, hK12, L4.things, L4.hmi, L4.mks, fun H9 k9 => ?_⟩
        obtain ⟨F9, L9, _⟩ := L4.upto (KB.of k9) ((L4.well.same fun b o e => L4.rep.fr b o e).same k9)
        refine ⟨true, rfl, ?_⟩
        refine iteF ?_
        exact ⟨S', F9, mine', _, _, rfl, L9, by omega⟩
      · rintro σ Hc ⟨S, Fc, mine, b7, b8, rfl, L3, hml⟩
        refine ⟨_, rfl, _, _, _, rfl, L3.rep.hallI isW, hf_no_things _ _, W, S, Fc, isW, rfl, L3.rep, (by
          have q1 := L3.inv.tlen
          have q2 := L3.inv.bud
          omega), fun ms p hp1 _ hp => ?_⟩
        refine ⟨p, natV ms, rfl, .inl (SqL.of upd_same), rfl, natV_flat _, ?_⟩
        obtain ⟨r, hr1⟩ := L3.hd
        have h1 : 1 ∈ S.there := mine_in L3.inv L3.mks (by rw [hr1]; exact List.mem_cons_self)
        have h2 : inV (.int 1) (natV ms) = true := by
          rw [show (V.int 1) = V.int ((1 : Nat) : Int) from rfl, inV_natV]
          exact decide_eq_true (hp1.mem_iff.mpr h1)
        have h3 := k (upd Hc p (.lst (natV ms)))
        rw [← h2] at h3
        exact h3
end
end Snk
namespace Snk
open PySem L2
/-! ## Q. from what the top has left to the law -/
theorem all_mk {l : PySem.W.OpenLaw} {w : World} {K : PySem.W.Frag} {h : Heap} {mg : Str → Option Value} {fa C CH CE f1 f2 f3 f4 f5 f6 f7 f8 f9 f10 f11 f12 f13 f14 f15 f16 f17 f18 f19 f20 f21 f22 f23 f24 f25 f26 f27 f28 f29 f30 f31 f32 f33 f34 : Addr} (X : K.In h) (G : h.Ns mainGlobals mg) (hfa : mg "law" = some (.ref fa))
    {od1 an1 od2 an2 od3 an3 od4 an4 od5 an5 od6 an6 od7 an7 od8 an8 od9 an9 od10 an10 od11 an11 od12 an12 od13 an13 od14 an14 od15 an15 od16 an16 od17 an17 od18 an18 od19 an19 od20 an20 od21 an21 od22 an22 od23 an23 od24 an24 od25 an25 od26 an26 od27 an27 od28 an28 od29 an29 od30 an30 od31 an31 od32 an32 od33 an33 od34 an34 : Option Addr} {sl1 sl2 sl3 sl4 sl5 sl6 sl7 sl8 sl9 sl10 sl11 sl12 sl13 sl14 sl15 sl16 sl17 sl18 sl19 sl20 sl21 sl22 sl23 sl24 sl25 sl26 sl27 sl28 sl29 sl30 sl31 sl32 sl33 sl34 : Array (Option Value)} {oc1 kV1 dc1 pm1 cd1 ct1 oc2 kV2 dc2 pm2 cd2 ct2 oc3 kV3 dc3 pm3 cd3 ct3 oc4 kV4 dc4 pm4 cd4 ct4 oc5 kV5 dc5 pm5 cd5 ct5 oc6 kV6 dc6 pm6 cd6 ct6 oc7 kV7 dc7 pm7 cd7 ct7 oc8 kV8 dc8 pm8 cd8 ct8 oc9 kV9 dc9 pm9 cd9 ct9 oc10 kV10 dc10 pm10 cd10 ct10 oc11 kV11 dc11 pm11 cd11 ct11 oc12 kV12 dc12 pm12 cd12 ct12 oc13 kV13 dc13 pm13 cd13 ct13 oc14 kV14 dc14 pm14 cd14 ct14 oc15 kV15 dc15 pm15 cd15 ct15 oc16 kV16 dc16 pm16 cd16 ct16 oc17 kV17 dc17 pm17 cd17 ct17 oc18 kV18 dc18 pm18 cd18 ct18 oc19 kV19 dc19 pm19 cd19 ct19 oc20 kV20 dc20 pm20 cd20 ct20 oc21 kV21 dc21 pm21 cd21 ct21 oc22 kV22 dc22 pm22 cd22 ct22 oc23 kV23 dc23 pm23 cd23 ct23 oc24 kV24 dc24 pm24 cd24 ct24 oc25 kV25 dc25 pm25 cd25 ct25 oc26 kV26 dc26 pm26 cd26 ct26 oc27 kV27 dc27 pm27 cd27 ct27 oc28 kV28 dc28 pm28 cd28 ct28 oc29 kV29 dc29 pm29 cd29 ct29 oc30 kV30 dc30 pm30 cd30 ct30 oc31 kV31 dc31 pm31 cd31 ct31 oc32 kV32 dc32 pm32 cd32 ct32 oc33 kV33 dc33 pm33 cd33 ct33 oc34 kV34 dc34 pm34 cd34 ct34 : Value}
    (aC : PySem.W.nsIn K mainGlobals "Thing" = some (some (.ref C)))
    (aCH : PySem.W.nsIn K mainGlobals "Hall" = some (some (.ref CH)))
    (aCE : PySem.W.nsIn K mainGlobals "Ends" = some (some (.ref CE)))
    (a1 : PySem.W.findIn K (.ref C) "__init__" = some (some (.ref f1)))
    (i1 : PySem.W.isFn K (.ref f1) = true)
    (l1 : K.lookup f1 = some ⟨oc1, od1, .func (PySem.W.fnOf "__init__" "Thing.__init__" (defArgs sThing) (defBody sThing) (defScope sThing) .none kV1 dc1 pm1 an1 cd1 ct1), sl1⟩)
    (c1 : PySem.W.codeIn K cd1 "Thing.__init__" = true)
    (k1 : PySem.W.keepIn K (.ref f1) = true)
    (a2 : PySem.W.findIn K (.ref CH) "make" = some (some (.ref f2)))
    (i2 : PySem.W.isFn K (.ref f2) = true)
    (l2 : K.lookup f2 = some ⟨oc2, od2, .func (PySem.W.fnOf "make" "Hall.make" (defArgs sMake) (defBody sMake) (defScope sMake) .none kV2 dc2 pm2 an2 cd2 ct2), sl2⟩)
    (c2 : PySem.W.codeIn K cd2 "Hall.make" = true)
    (k2 : PySem.W.keepIn K (.ref f2) = true)
    (a3 : PySem.W.findIn K (.ref CH) "hold" = some (some (.ref f3)))
    (i3 : PySem.W.isFn K (.ref f3) = true)
    (l3 : K.lookup f3 = some ⟨oc3, od3, .func (PySem.W.fnOf "hold" "Hall.hold" (defArgs sHold) (defBody sHold) (defScope sHold) .none kV3 dc3 pm3 an3 cd3 ct3), sl3⟩)
    (c3 : PySem.W.codeIn K cd3 "Hall.hold" = true)
    (k3 : PySem.W.keepIn K (.ref f3) = true)
    (a4 : PySem.W.findIn K (.ref CH) "loose" = some (some (.ref f4)))
    (i4 : PySem.W.isFn K (.ref f4) = true)
    (l4 : K.lookup f4 = some ⟨oc4, od4, .func (PySem.W.fnOf "loose" "Hall.loose" (defArgs sLoose) (defBody sLoose) (defScope sLoose) .none kV4 dc4 pm4 an4 cd4 ct4), sl4⟩)
    (c4 : PySem.W.codeIn K cd4 "Hall.loose" = true)
    (k4 : PySem.W.keepIn K (.ref f4) = true)
    (a5 : PySem.W.findIn K (.ref CH) "put" = some (some (.ref f5)))
    (i5 : PySem.W.isFn K (.ref f5) = true)
    (l5 : K.lookup f5 = some ⟨oc5, od5, .func (PySem.W.fnOf "put" "Hall.put" (defArgs sPut) (defBody sPut) (defScope sPut) .none kV5 dc5 pm5 an5 cd5 ct5), sl5⟩)
    (c5 : PySem.W.codeIn K cd5 "Hall.put" = true)
    (k5 : PySem.W.keepIn K (.ref f5) = true)
    (a6 : PySem.W.findIn K (.ref CH) "take" = some (some (.ref f6)))
    (i6 : PySem.W.isFn K (.ref f6) = true)
    (l6 : K.lookup f6 = some ⟨oc6, od6, .func (PySem.W.fnOf "take" "Hall.take" (defArgs sTake) (defBody sTake) (defScope sTake) .none kV6 dc6 pm6 an6 cd6 ct6), sl6⟩)
    (c6 : PySem.W.codeIn K cd6 "Hall.take" = true)
    (k6 : PySem.W.keepIn K (.ref f6) = true)
    (a7 : PySem.W.findIn K (.ref CH) "let_go" = some (some (.ref f7)))
    (i7 : PySem.W.isFn K (.ref f7) = true)
    (l7 : K.lookup f7 = some ⟨oc7, od7, .func (PySem.W.fnOf "let_go" "Hall.let_go" (defArgs sLetGo) (defBody sLetGo) (defScope sLetGo) .none kV7 dc7 pm7 an7 cd7 ct7), sl7⟩)
    (c7 : PySem.W.codeIn K cd7 "Hall.let_go" = true)
    (k7 : PySem.W.keepIn K (.ref f7) = true)
    (a8 : PySem.W.findIn K (.ref CH) "work" = some (some (.ref f8)))
    (i8 : PySem.W.isFn K (.ref f8) = true)
    (l8 : K.lookup f8 = some ⟨oc8, od8, .func (PySem.W.fnOf "work" "Hall.work" (defArgs sWork) (defBody sWork) (defScope sWork) .none kV8 dc8 pm8 an8 cd8 ct8), sl8⟩)
    (c8 : PySem.W.codeIn K cd8 "Hall.work" = true)
    (k8 : PySem.W.keepIn K (.ref f8) = true)
    (a9 : PySem.W.findIn K (.ref CH) "turn" = some (some (.ref f9)))
    (i9 : PySem.W.isFn K (.ref f9) = true)
    (l9 : K.lookup f9 = some ⟨oc9, od9, .func (PySem.W.fnOf "turn" "Hall.turn" (defArgs sTurn) (defBody sTurn) (defScope sTurn) .none kV9 dc9 pm9 an9 cd9 ct9), sl9⟩)
    (c9 : PySem.W.codeIn K cd9 "Hall.turn" = true)
    (k9 : PySem.W.keepIn K (.ref f9) = true)
    (a10 : PySem.W.findIn K (.ref CH) "ask_last" = some (some (.ref f10)))
    (i10 : PySem.W.isFn K (.ref f10) = true)
    (l10 : K.lookup f10 = some ⟨oc10, od10, .func (PySem.W.fnOf "ask_last" "Hall.ask_last" (defArgs sAskLast) (defBody sAskLast) (defScope sAskLast) .none kV10 dc10 pm10 an10 cd10 ct10), sl10⟩)
    (c10 : PySem.W.codeIn K cd10 "Hall.ask_last" = true)
    (k10 : PySem.W.keepIn K (.ref f10) = true)
    (a11 : PySem.W.findIn K (.ref CH) "be_gone" = some (some (.ref f11)))
    (i11 : PySem.W.isFn K (.ref f11) = true)
    (l11 : K.lookup f11 = some ⟨oc11, od11, .func (PySem.W.fnOf "be_gone" "Hall.be_gone" (defArgs sBeGone) (defBody sBeGone) (defScope sBeGone) .none kV11 dc11 pm11 an11 cd11 ct11), sl11⟩)
    (c11 : PySem.W.codeIn K cd11 "Hall.be_gone" = true)
    (k11 : PySem.W.keepIn K (.ref f11) = true)
    (a12 : PySem.W.findIn K (.ref CH) "empty" = some (some (.ref f12)))
    (i12 : PySem.W.isFn K (.ref f12) = true)
    (l12 : K.lookup f12 = some ⟨oc12, od12, .func (PySem.W.fnOf "empty" "Hall.empty" (defArgs sEmpty) (defBody sEmpty) (defScope sEmpty) .none kV12 dc12 pm12 an12 cd12 ct12), sl12⟩)
    (c12 : PySem.W.codeIn K cd12 "Hall.empty" = true)
    (k12 : PySem.W.keepIn K (.ref f12) = true)
    (a13 : PySem.W.findIn K (.ref CE) "last" = some (some (.ref f13)))
    (i13 : PySem.W.isFn K (.ref f13) = true)
    (l13 : K.lookup f13 = some ⟨oc13, od13, .func (PySem.W.fnOf "last" "Ends.last" (defArgs sLast) (defBody sLast) (defScope sLast) .none kV13 dc13 pm13 an13 cd13 ct13), sl13⟩)
    (c13 : PySem.W.codeIn K cd13 "Ends.last" = true)
    (k13 : PySem.W.keepIn K (.ref f13) = true)
    (a14 : PySem.W.findIn K (.ref CE) "is_there" = some (some (.ref f14)))
    (i14 : PySem.W.isFn K (.ref f14) = true)
    (l14 : K.lookup f14 = some ⟨oc14, od14, .func (PySem.W.fnOf "is_there" "Ends.is_there" (defArgs sIsThere) (defBody sIsThere) (defScope sIsThere) .none kV14 dc14 pm14 an14 cd14 ct14), sl14⟩)
    (c14 : PySem.W.codeIn K cd14 "Ends.is_there" = true)
    (k14 : PySem.W.keepIn K (.ref f14) = true)
    (a15 : PySem.W.findIn K (.ref CE) "do" = some (some (.ref f15)))
    (i15 : PySem.W.isFn K (.ref f15) = true)
    (l15 : K.lookup f15 = some ⟨oc15, od15, .func (PySem.W.fnOf "do" "Ends.do" (defArgs sDo) (defBody sDo) (defScope sDo) .none kV15 dc15 pm15 an15 cd15 ct15), sl15⟩)
    (c15 : PySem.W.codeIn K cd15 "Ends.do" = true)
    (k15 : PySem.W.keepIn K (.ref f15) = true)
    (a16 : PySem.W.findIn K (.ref CH) "__init__" = some (some (.ref f16)))
    (i16 : PySem.W.isFn K (.ref f16) = true)
    (l16 : K.lookup f16 = some ⟨oc16, od16, .func (PySem.W.fnOf "__init__" "Hall.__init__" (defArgs sHall) (defBody sHall) (defScope sHall) .none kV16 dc16 pm16 an16 cd16 ct16), sl16⟩)
    (c16 : PySem.W.codeIn K cd16 "Hall.__init__" = true)
    (k16 : PySem.W.keepIn K (.ref f16) = true)
    (a17 : PySem.W.findIn K (.ref CE) "__init__" = some (some (.ref f17)))
    (i17 : PySem.W.isFn K (.ref f17) = true)
    (l17 : K.lookup f17 = some ⟨oc17, od17, .func (PySem.W.fnOf "__init__" "Ends.__init__" (defArgs sEnds) (defBody sEnds) (defScope sEnds) .none kV17 dc17 pm17 an17 cd17 ct17), sl17⟩)
    (c17 : PySem.W.codeIn K cd17 "Ends.__init__" = true)
    (k17 : PySem.W.keepIn K (.ref f17) = true)
    (a18 : PySem.W.findIn K (.ref CE) "lay" = some (some (.ref f18)))
    (i18 : PySem.W.isFn K (.ref f18) = true)
    (l18 : K.lookup f18 = some ⟨oc18, od18, .func (PySem.W.fnOf "lay" "Ends.lay" (defArgs sLay) (defBody sLay) (defScope sLay) .none kV18 dc18 pm18 an18 cd18 ct18), sl18⟩)
    (c18 : PySem.W.codeIn K cd18 "Ends.lay" = true)
    (k18 : PySem.W.keepIn K (.ref f18) = true)
    (a19 : PySem.W.findIn K (.ref CE) "plan" = some (some (.ref f19)))
    (i19 : PySem.W.isFn K (.ref f19) = true)
    (l19 : K.lookup f19 = some ⟨oc19, od19, .func (PySem.W.fnOf "plan" "Ends.plan" (defArgs sPlan) (defBody sPlan) (defScope sPlan) .none kV19 dc19 pm19 an19 cd19 ct19), sl19⟩)
    (c19 : PySem.W.codeIn K cd19 "Ends.plan" = true)
    (k19 : PySem.W.keepIn K (.ref f19) = true)
    (a20 : PySem.W.findIn K (.ref CH) "things" = some (some (.ref f20)))
    (i20 : PySem.W.isFn K (.ref f20) = true)
    (l20 : K.lookup f20 = some ⟨oc20, od20, .func (PySem.W.fnOf "things" "Hall.things" (defArgs sThings) (defBody sThings) (defScope sThings) .none kV20 dc20 pm20 an20 cd20 ct20), sl20⟩)
    (c20 : PySem.W.codeIn K cd20 "Hall.things" = true)
    (k20 : PySem.W.keepIn K (.ref f20) = true)
    (a21 : PySem.W.findIn K (.ref CH) "gone" = some (some (.ref f21)))
    (i21 : PySem.W.isFn K (.ref f21) = true)
    (l21 : K.lookup f21 = some ⟨oc21, od21, .func (PySem.W.fnOf "gone" "Hall.gone" (defArgs sGone) (defBody sGone) (defScope sGone) .none kV21 dc21 pm21 an21 cd21 ct21), sl21⟩)
    (c21 : PySem.W.codeIn K cd21 "Hall.gone" = true)
    (k21 : PySem.W.keepIn K (.ref f21) = true)
    (a22 : PySem.W.findIn K (.ref CE) "asked" = some (some (.ref f22)))
    (i22 : PySem.W.isFn K (.ref f22) = true)
    (l22 : K.lookup f22 = some ⟨oc22, od22, .func (PySem.W.fnOf "asked" "Ends.asked" (defArgs sAsked) (defBody sAsked) (defScope sAsked) .none kV22 dc22 pm22 an22 cd22 ct22), sl22⟩)
    (c22 : PySem.W.codeIn K cd22 "Ends.asked" = true)
    (k22 : PySem.W.keepIn K (.ref f22) = true)
    (a23 : PySem.W.nsIn K mainGlobals "_law_mixed" = some (some (.ref f23)))
    (l23 : K.lookup f23 = some ⟨oc23, od23, .func (PySem.W.fnOf "_law_mixed" "_law_mixed" (defArgs lMixed) (defBody lMixed) (defScope lMixed) .none kV23 dc23 pm23 an23 cd23 ct23), sl23⟩)
    (c23 : PySem.W.codeIn K cd23 "_law_mixed" = true)
    (k23 : PySem.W.keepIn K (.ref f23) = true)
    (a24 : PySem.W.nsIn K mainGlobals "_law_well" = some (some (.ref f24)))
    (l24 : K.lookup f24 = some ⟨oc24, od24, .func (PySem.W.fnOf "_law_well" "_law_well" (defArgs lWell) (defBody lWell) (defScope lWell) .none kV24 dc24 pm24 an24 cd24 ct24), sl24⟩)
    (c24 : PySem.W.codeIn K cd24 "_law_well" = true)
    (k24 : PySem.W.keepIn K (.ref f24) = true)
    (a25 : PySem.W.nsIn K mainGlobals "_law_dig" = some (some (.ref f25)))
    (l25 : K.lookup f25 = some ⟨oc25, od25, .func (PySem.W.fnOf "_law_dig" "_law_dig" (defArgs lDig) (defBody lDig) (defScope lDig) .none kV25 dc25 pm25 an25 cd25 ct25), sl25⟩)
    (c25 : PySem.W.codeIn K cd25 "_law_dig" = true)
    (k25 : PySem.W.keepIn K (.ref f25) = true)
    (a26 : PySem.W.nsIn K mainGlobals "_law_plan" = some (some (.ref f26)))
    (l26 : K.lookup f26 = some ⟨oc26, od26, .func (PySem.W.fnOf "_law_plan" "_law_plan" (defArgs lPlan) (defBody lPlan) (defScope lPlan) .none kV26 dc26 pm26 an26 cd26 ct26), sl26⟩)
    (c26 : PySem.W.codeIn K cd26 "_law_plan" = true)
    (k26 : PySem.W.keepIn K (.ref f26) = true)
    (a27 : PySem.W.nsIn K mainGlobals "_law_of_things" = some (some (.ref f27)))
    (l27 : K.lookup f27 = some ⟨oc27, od27, .func (PySem.W.fnOf "_law_of_things" "_law_of_things" (defArgs lOf) (defBody lOf) (defScope lOf) .none kV27 dc27 pm27 an27 cd27 ct27), sl27⟩)
    (c27 : PySem.W.codeIn K cd27 "_law_of_things" = true)
    (k27 : PySem.W.keepIn K (.ref f27) = true)
    (a28 : PySem.W.nsIn K mainGlobals "_law_thing" = some (some (.ref f28)))
    (l28 : K.lookup f28 = some ⟨oc28, od28, .func (PySem.W.fnOf "_law_thing" "_law_thing" (defArgs lThing) (defBody lThing) (defScope lThing) .none kV28 dc28 pm28 an28 cd28 ct28), sl28⟩)
    (c28 : PySem.W.codeIn K cd28 "_law_thing" = true)
    (k28 : PySem.W.keepIn K (.ref f28) = true)
    (a29 : PySem.W.nsIn K mainGlobals "_law_all_known" = some (some (.ref f29)))
    (l29 : K.lookup f29 = some ⟨oc29, od29, .func (PySem.W.fnOf "_law_all_known" "_law_all_known" (defArgs lKnown) (defBody lKnown) (defScope lKnown) .none kV29 dc29 pm29 an29 cd29 ct29), sl29⟩)
    (c29 : PySem.W.codeIn K cd29 "_law_all_known" = true)
    (k29 : PySem.W.keepIn K (.ref f29) = true)
    (a30 : PySem.W.nsIn K mainGlobals "_law_counted" = some (some (.ref f30)))
    (l30 : K.lookup f30 = some ⟨oc30, od30, .func (PySem.W.fnOf "_law_counted" "_law_counted" (defArgs lCounted) (defBody lCounted) (defScope lCounted) .none kV30 dc30 pm30 an30 cd30 ct30), sl30⟩)
    (c30 : PySem.W.codeIn K cd30 "_law_counted" = true)
    (k30 : PySem.W.keepIn K (.ref f30) = true)
    (a31 : PySem.W.nsIn K mainGlobals "_law_key" = some (some (.ref f31)))
    (l31 : K.lookup f31 = some ⟨oc31, od31, .func (PySem.W.fnOf "_law_key" "_law_key" (defArgs lKey) (defBody lKey) (defScope lKey) .none kV31 dc31 pm31 an31 cd31 ct31), sl31⟩)
    (c31 : PySem.W.codeIn K cd31 "_law_key" = true)
    (k31 : PySem.W.keepIn K (.ref f31) = true)
    (a32 : PySem.W.nsIn K mainGlobals "_law_step" = some (some (.ref f32)))
    (l32 : K.lookup f32 = some ⟨oc32, od32, .func (PySem.W.fnOf "_law_step" "_law_step" (defArgs lStep) (defBody lStep) (defScope lStep) .none kV32 dc32 pm32 an32 cd32 ct32), sl32⟩)
    (c32 : PySem.W.codeIn K cd32 "_law_step" = true)
    (k32 : PySem.W.keepIn K (.ref f32) = true)
    (a33 : PySem.W.nsIn K mainGlobals "_law_stands" = some (some (.ref f33)))
    (l33 : K.lookup f33 = some ⟨oc33, od33, .func (PySem.W.fnOf "_law_stands" "_law_stands" (defArgs lStands) (defBody lStands) (defScope lStands) .none kV33 dc33 pm33 an33 cd33 ct33), sl33⟩)
    (c33 : PySem.W.codeIn K cd33 "_law_stands" = true)
    (k33 : PySem.W.keepIn K (.ref f33) = true)
    (a34 : PySem.W.nsIn K mainGlobals "law" = some (some (.ref f34)))
    (l34 : K.lookup f34 = some ⟨oc34, od34, .func (PySem.W.fnOf "law" "law" (defArgs lLaw) (defBody lLaw) (defScope lLaw) .none kV34 dc34 pm34 an34 cd34 ct34), sl34⟩)
    (c34 : PySem.W.codeIn K cd34 "law" = true)
    (k34 : PySem.W.keepIn K (.ref f34) = true)
    (pgC : PySem.W.plainGet K C Str.empty = true)
    (hdC : PySem.W.hasDictIn K C = true)
    (poC : PySem.W.plainOver K C = true)
    (saC : PySem.W.findIn K (.ref C) "__setattr__" = some (some (.builtin "object.__setattr__")))
    (mkC : PySem.W.makesIn K C = true)
    (kcC : PySem.W.keepIn K (.ref C) = true)
    (nC_form : PySem.W.findIn K (.ref C) "form" = some none)
    (nC_number : PySem.W.findIn K (.ref C) "number" = some none)
    (nC_count : PySem.W.findIn K (.ref C) "count" = some none)
    (nC_parts : PySem.W.findIn K (.ref C) "parts" = some none)
    (nC_own : PySem.W.findIn K (.ref C) "own" = some none)
    (nC_ended : PySem.W.findIn K (.ref C) "ended" = some none)
    (nC_waits : PySem.W.findIn K (.ref C) "waits" = some none)
    (pgCH : PySem.W.plainGet K CH Str.empty = true)
    (hdCH : PySem.W.hasDictIn K CH = true)
    (poCH : PySem.W.plainOver K CH = true)
    (saCH : PySem.W.findIn K (.ref CH) "__setattr__" = some (some (.builtin "object.__setattr__")))
    (mkCH : PySem.W.makesIn K CH = true)
    (kcCH : PySem.W.keepIn K (.ref CH) = true)
    (nCH_ender : PySem.W.findIn K (.ref CH) "ender" = some none)
    (nCH_many : PySem.W.findIn K (.ref CH) "many" = some none)
    (nCH_there : PySem.W.findIn K (.ref CH) "there" = some none)
    (nCH_left : PySem.W.findIn K (.ref CH) "left" = some none)
    (nCH_row : PySem.W.findIn K (.ref CH) "row" = some none)
    (nCH_lasts : PySem.W.findIn K (.ref CH) "lasts" = some none)
    (pgCE : PySem.W.plainGet K CE Str.empty = true)
    (hdCE : PySem.W.hasDictIn K CE = true)
    (poCE : PySem.W.plainOver K CE = true)
    (saCE : PySem.W.findIn K (.ref CE) "__setattr__" = some (some (.builtin "object.__setattr__")))
    (mkCE : PySem.W.makesIn K CE = true)
    (kcCE : PySem.W.keepIn K (.ref CE) = true)
    (nCE_hall : PySem.W.findIn K (.ref CE) "hall" = some none)
    (nCE_plans : PySem.W.findIn K (.ref CE) "plans" = some none)
    (nCE_numbers : PySem.W.findIn K (.ref CE) "numbers" = some none)
    (nCE_holds : PySem.W.findIn K (.ref CE) "holds" = some none)
    (tfa : PySem.W.findIn K (.ref C) "__class__" = some (some (.builtin "object.__class__")))
    (tfn : PySem.W.specialIn K (.builtin "object.__class__") "__get__" = some (some (.builtin "getset_descriptor.__get__")))
    (tft : PySem.W.takesIn K (.builtin "object.__class__") = some true)
    (tfm : PySem.W.mroIn K C (.type "object") = some true)
    (tkN : PySem.W.kitOne K (.type "NoneType") (.ref C) = some false)
    (tkB : PySem.W.kitOne K (.type "bool") (.ref C) = some false)
    (tkI : PySem.W.kitOne K (.type "int") (.ref C) = some false)
    (tkS : PySem.W.kitOne K (.type "str") (.ref C) = some false)
    (z_isinstance : PySem.W.nsIn K mainGlobals "isinstance" = some none)
    (z_len : PySem.W.nsIn K mainGlobals "len" = some none)
    (z_list : PySem.W.nsIn K mainGlobals "list" = some none)
    (z_all : PySem.W.nsIn K mainGlobals "all" = some none)
    (z_sorted : PySem.W.nsIn K mainGlobals "sorted" = some none)
    (z_abs : PySem.W.nsIn K mainGlobals "abs" = some none)
    (z_tuple : PySem.W.nsIn K mainGlobals "tuple" = some none)
    (z_dict : PySem.W.nsIn K mainGlobals "dict" = some none)
    (z_range : PySem.W.nsIn K mainGlobals "range" = some none)
    (z_set : PySem.W.nsIn K mainGlobals "set" = some none) :
    ∃ fd : FuncData, (∀ (s : Shared) (v : Value), BindsTo s fd ⟨[v], []⟩ [("_law_script", v)]) ∧ ∀ base : Heap, K.In base → base.Ns mainGlobals mg → FnOk l.prog w K mg base CX0 110 fa fd ["_law_script"] (spLaw K) := by
  have e := hfa.symm.trans (PySem.W.mg_of X G a34)
  cases e
  have T : Txt K mg C CH CE := ⟨⟨pgC, hdC, poC, saC⟩, nC_form, nC_number, nC_count, nC_parts, nC_own, nC_ended, nC_waits, PySem.W.mg_of X G aC, tfa, tfn, tft, tfm, tkN, tkB, tkI, tkS, ⟨pgCH, hdCH, poCH, saCH⟩, nCH_ender, nCH_many, nCH_there, nCH_left, nCH_row, nCH_lasts, ⟨pgCE, hdCE, poCE, saCE⟩, nCE_hall, nCE_plans, nCE_numbers, nCE_holds, PySem.W.mg_none_of X G z_isinstance, PySem.W.mg_none_of X G z_len, PySem.W.mg_none_of X G z_list, PySem.W.mg_none_of X G z_all, PySem.W.mg_none_of X G z_sorted⟩
  have F1 := fun_mk (st := sThing) l1 c1 k1
  have b1 := F1.binds (ps := ["self", "form", "number", "own"]) fun _ _ _ _ _ _ us hl => match us, hl with | [_, _, _, _], _ => rfl
  have F2 := fun_mk (st := sMake) l2 c2 k2
  have b2 := F2.binds (ps := ["self", "form", "own"]) fun _ _ _ _ _ _ us hl => match us, hl with | [_, _, _], _ => rfl
  have F3 := fun_mk (st := sHold) l3 c3 k3
  have b3 := F3.binds (ps := ["self", "value"]) fun _ _ _ _ _ _ us hl => match us, hl with | [_, _], _ => rfl
  have F4 := fun_mk (st := sLoose) l4 c4 k4
  have b4 := F4.binds (ps := ["self", "value"]) fun _ _ _ _ _ _ us hl => match us, hl with | [_, _], _ => rfl
  have F5 := fun_mk (st := sPut) l5 c5 k5
  have b5 := F5.binds (ps := ["self", "thing", "key", "value"]) fun _ _ _ _ _ _ us hl => match us, hl with | [_, _, _, _], _ => rfl
  have F6 := fun_mk (st := sTake) l6 c6 k6
  have b6 := F6.binds (ps := ["self", "thing", "key"]) fun _ _ _ _ _ _ us hl => match us, hl with | [_, _, _], _ => rfl
  have F7 := fun_mk (st := sLetGo) l7 c7 k7
  have b7 := F7.binds (ps := ["self", "thing"]) fun _ _ _ _ _ _ us hl => match us, hl with | [_, _], _ => rfl
  have F8 := fun_mk (st := sWork) l8 c8 k8
  have b8 := F8.binds (ps := ["self"]) fun _ _ _ _ _ _ us hl => match us, hl with | [_], _ => rfl
  have F9 := fun_mk (st := sTurn) l9 c9 k9
  have b9 := F9.binds (ps := ["self", "thing"]) fun _ _ _ _ _ _ us hl => match us, hl with | [_, _], _ => rfl
  have F10 := fun_mk (st := sAskLast) l10 c10 k10
  have b10 := F10.binds (ps := ["self", "thing"]) fun _ _ _ _ _ _ us hl => match us, hl with | [_, _], _ => rfl
  have F11 := fun_mk (st := sBeGone) l11 c11 k11
  have b11 := F11.binds (ps := ["self", "thing"]) fun _ _ _ _ _ _ us hl => match us, hl with | [_, _], _ => rfl
  have F12 := fun_mk (st := sEmpty) l12 c12 k12
  have b12 := F12.binds (ps := ["self", "thing"]) fun _ _ _ _ _ _ us hl => match us, hl with | [_, _], _ => rfl
  have F13 := fun_mk (st := sLast) l13 c13 k13
  have b13 := F13.binds (ps := ["self", "thing"]) fun _ _ _ _ _ _ us hl => match us, hl with | [_, _], _ => rfl
  have F14 := fun_mk (st := sIsThere) l14 c14 k14
  have b14 := F14.binds (ps := ["self", "value"]) fun _ _ _ _ _ _ us hl => match us, hl with | [_, _], _ => rfl
  have F15 := fun_mk (st := sDo) l15 c15 k15
  have b15 := F15.binds (ps := ["self", "deed"]) fun _ _ _ _ _ _ us hl => match us, hl with | [_, _], _ => rfl
  have F16 := fun_mk (st := sHall) l16 c16 k16
  have b16 := F16.binds (ps := ["self", "ender"]) fun _ _ _ _ _ _ us hl => match us, hl with | [_, _], _ => rfl
  have F17 := fun_mk (st := sEnds) l17 c17 k17
  have b17 := F17.binds (ps := ["self"]) fun _ _ _ _ _ _ us hl => match us, hl with | [_], _ => rfl
  have F18 := fun_mk (st := sLay) l18 c18 k18
  have b18 := F18.binds (ps := ["self", "hall"]) fun _ _ _ _ _ _ us hl => match us, hl with | [_, _], _ => rfl
  have F19 := fun_mk (st := sPlan) l19 c19 k19
  have b19 := F19.binds (ps := ["self", "thing", "deeds"]) fun _ _ _ _ _ _ us hl => match us, hl with | [_, _, _], _ => rfl
  have F20 := fun_mk (st := sThings) l20 c20 k20
  have b20 := F20.binds (ps := ["self"]) fun _ _ _ _ _ _ us hl => match us, hl with | [_], _ => rfl
  have F21 := fun_mk (st := sGone) l21 c21 k21
  have b21 := F21.binds (ps := ["self"]) fun _ _ _ _ _ _ us hl => match us, hl with | [_], _ => rfl
  have F22 := fun_mk (st := sAsked) l22 c22 k22
  have b22 := F22.binds (ps := ["self"]) fun _ _ _ _ _ _ us hl => match us, hl with | [_], _ => rfl
  have F23 := fun_mk (st := lMixed) l23 c23 k23
  have b23 := F23.binds (ps := ["_law_number", "_law_k"]) fun _ _ _ _ _ _ us hl => match us, hl with | [_, _], _ => rfl
  have F24 := fun_mk (st := lWell) l24 c24 k24
  have b24 := F24.binds (ps := ["_law_script", "_law_first"]) fun _ _ _ _ _ _ us hl => match us, hl with | [_, _], _ => rfl
  have F25 := fun_mk (st := lDig) l25 c25 k25
  have b25 := F25.binds (ps := ["_law_well_here", "_law_most"]) fun _ _ _ _ _ _ us hl => match us, hl with | [_, _], _ => rfl
  have F26 := fun_mk (st := lPlan) l26 c26 k26
  have b26 := F26.binds (ps := ["_law_well_here", "_law_many"]) fun _ _ _ _ _ _ us hl => match us, hl with | [_, _], _ => rfl
  have F27 := fun_mk (st := lOf) l27 c27 k27
  have b27 := F27.binds (ps := ["_law_things", "_law_deed"]) fun _ _ _ _ _ _ us hl => match us, hl with | [_, _], _ => rfl
  have F28 := fun_mk (st := lThing) l28 c28 k28
  have b28 := F28.binds (ps := ["_law_value"]) fun _ _ _ _ _ _ us hl => match us, hl with | [_], _ => rfl
  have F29 := fun_mk (st := lKnown) l29 c29 k29
  have b29 := F29.binds (ps := ["_law_things"]) fun _ _ _ _ _ _ us hl => match us, hl with | [_], _ => rfl
  have F30 := fun_mk (st := lCounted) l30 c30 k30
  have b30 := F30.binds (ps := ["_law_known", "_law_there", "_law_mine"]) fun _ _ _ _ _ _ us hl => match us, hl with | [_, _, _], _ => rfl
  have F31 := fun_mk (st := lKey) l31 c31 k31
  have b31 := F31.binds (ps := ["_law_well_here"]) fun _ _ _ _ _ _ us hl => match us, hl with | [_], _ => rfl
  have F32 := fun_mk (st := lStep) l32 c32 k32
  have b32 := F32.binds (ps := ["_law_well_here", "_law_hall", "_law_things", "_law_mine"]) fun _ _ _ _ _ _ us hl => match us, hl with | [_, _, _, _], _ => rfl
  have F33 := fun_mk (st := lStands) l33 c33 k33
  have b33 := F33.binds (ps := ["_law_hall", "_law_ender", "_law_things", "_law_mine"]) fun _ _ _ _ _ _ us hl => match us, hl with | [_, _, _, _], _ => rfl
  have F34 := fun_mk (st := lLaw) l34 c34 k34
  have N : Fns K C CH CE := ⟨f1, f2, f3, f4, f5, f6, f7, f8, f9, f10, f11, f12, f13, f14, f15, _, _, _, _, _, _, _, _, _, _, _, _, _, _, _, F1, F2, F3, F4, F5, F6, F7, F8, F9, F10, F11, F12, F13, F14, F15, b1, b2, b3, b4, b5, b6, b7, b8, b9, b10, b11, b12, b13, b14, b15, ⟨mkC, a1, i1, kcC⟩, ⟨a2, i2, k2⟩, ⟨a3, i3, k3⟩, ⟨a4, i4, k4⟩, ⟨a5, i5, k5⟩, ⟨a6, i6, k6⟩, ⟨a7, i7, k7⟩, ⟨a8, i8, k8⟩, ⟨a9, i9, k9⟩, ⟨a10, i10, k10⟩, ⟨a11, i11, k11⟩, ⟨a12, i12, k12⟩, ⟨a13, i13, k13⟩, ⟨a14, i14, k14⟩, ⟨a15, i15, k15⟩⟩
  have LL : Lns K mg C CH CE := ⟨f16, f17, f18, f19, f20, f21, f22, f23, f24, f25, f26, f27, f28, f29, f30, f31, f32, f33, _, _, _, _, _, _, _, _, _, _, _, _, _, _, _, _, _, _, F16, F17, F18, F19, F20, F21, F22, F23, F24, F25, F26, F27, F28, F29, F30, F31, F32, F33, b16, b17, b18, b19, b20, b21, b22, b23, b24, b25, b26, b27, b28, b29, b30, b31, b32, b33, ⟨mkCH, a16, i16, kcCH⟩, ⟨mkCE, a17, i17, kcCE⟩, ⟨a18, i18, k18⟩, ⟨a19, i19, k19⟩, ⟨a20, i20, k20⟩, ⟨a21, i21, k21⟩, ⟨a22, i22, k22⟩, PySem.W.mg_of X G aCH, PySem.W.mg_of X G aCE, PySem.W.mg_of X G a23, PySem.W.mg_of X G a24, PySem.W.mg_of X G a25, PySem.W.mg_of X G a26, PySem.W.mg_of X G a27, PySem.W.mg_of X G a28, PySem.W.mg_of X G a29, PySem.W.mg_of X G a30, PySem.W.mg_of X G a31, PySem.W.mg_of X G a32, PySem.W.mg_of X G a33, PySem.W.mg_none_of X G z_abs, PySem.W.mg_none_of X G z_tuple, PySem.W.mg_none_of X G z_dict, PySem.W.mg_none_of X G z_range, PySem.W.mg_none_of X G z_set⟩
  exact ⟨PySem.W.fnOf "law" "law" (defArgs lLaw) (defBody lLaw) (defScope lLaw) .none kV34 dc34 pm34 an34 cd34 ct34, fun s v => .of_eq rfl, fun base _ _ => ok_law F34 T N LL⟩
theorem walk {l : PySem.W.OpenLaw} {q : Program} {loose : List Str} {XP : (Str → Option Value) → Heap → Prop} {YP : World → Heap → Prop} {d : DefRec} {K : Params → PySem.W.Frag} (hn : l.most = some 63) (hdf : d.params.defaults = [])
    (hY : ∀ (w : World) (h : Heap), YP w h → (K w.params).In h)
    (F : ∀ (w : World) (mg : Str → Option Value) (fa : Addr) (h : Heap), (K w.params).In h → h.Ns mainGlobals mg → mg d.name = some (.ref fa) →
      ∃ fd : FuncData, (∀ (s : Shared) (u : Value), BindsTo s fd ⟨[u], []⟩ [("_law_script", u)]) ∧ ∀ base : Heap, (K w.params).In base → base.Ns mainGlobals mg → FnOk l.prog w (K w.params) mg base CX0 110 fa fd ["_law_script"] (spLaw (K w.params))) :
    PySem.W.WalkO q loose XP YP l.row.toRowW d [] (fun f vs => PySem.call f vs) :=
  L2.walk_of (n := 63) (k := 110) (x := "_law_script") (CX := fun _ => CX0) (sp := fun w => spLaw (K w.params)) hn (by decide) hdf ⟨rfl, by decide, by decide⟩ hY F (fun _ _ a ns hl _ hS => ⟨a, ns, rfl, hS, hl, fun _ => rfl⟩) fun _ _ _ _ _ z => z
end Snk
open PySem PySem.W PyProof.Rows in
set_option maxRecDepth 100000 in
set_option maxHeartbeats 0 in
theorem PySem.Challenge.cw_snakehall_k27_whole_held_or_gone_holds : PySem.Challenge.rw_snakehall_k27_whole_held_or_gone.Holds := by
  w_on; o_law; k_head; (case hw => w_witness2)
  k_fill
  refine Snk.walk (l := PySem.Challenge.rw_snakehall_k27_whole_held_or_gone) rfl rfl (fun w h Y => PySem.W.kIn_of Y) ?F
  case F =>
    intro w mg fa h KX G hmg
    refine' Snk.all_mk KX G hmg ?aC ?aCH ?aCE ?a1 ?i1 ?l1 ?c1 ?k1 ?a2 ?i2 ?l2 ?c2 ?k2 ?a3 ?i3 ?l3 ?c3 ?k3 ?a4 ?i4 ?l4 ?c4 ?k4 ?a5 ?i5 ?l5 ?c5 ?k5 ?a6 ?i6 ?l6 ?c6 ?k6 ?a7 ?i7 ?l7 ?c7 ?k7 ?a8 ?i8 ?l8 ?c8 ?k8 ?a9 ?i9 ?l9 ?c9 ?k9 ?a10 ?i10 ?l10 ?c10 ?k10 ?a11 ?i11 ?l11 ?c11 ?k11 ?a12 ?i12 ?l12 ?c12 ?k12 ?a13 ?i13 ?l13 ?c13 ?k13 ?a14 ?i14 ?l14 ?c14 ?k14 ?a15 ?i15 ?l15 ?c15 ?k15 ?a16 ?i16 ?l16 ?c16 ?k16 ?a17 ?i17 ?l17 ?c17 ?k17 ?a18 ?i18 ?l18 ?c18 ?k18 ?a19 ?i19 ?l19 ?c19 ?k19 ?a20 ?i20 ?l20 ?c20 ?k20 ?a21 ?i21 ?l21 ?c21 ?k21 ?a22 ?i22 ?l22 ?c22 ?k22 ?a23 ?l23 ?c23 ?k23 ?a24 ?l24 ?c24 ?k24 ?a25 ?l25 ?c25 ?k25 ?a26 ?l26 ?c26 ?k26 ?a27 ?l27 ?c27 ?k27 ?a28 ?l28 ?c28 ?k28 ?a29 ?l29 ?c29 ?k29 ?a30 ?l30 ?c30 ?k30 ?a31 ?l31 ?c31 ?k31 ?a32 ?l32 ?c32 ?k32 ?a33 ?l33 ?c33 ?k33 ?a34 ?l34 ?c34 ?k34 ?pgC ?hdC ?poC ?saC ?mkC ?kcC ?nC_form ?nC_number ?nC_count ?nC_parts ?nC_own ?nC_ended ?nC_waits ?pgCH ?hdCH ?poCH ?saCH ?mkCH ?kcCH ?nCH_ender ?nCH_many ?nCH_there ?nCH_left ?nCH_row ?nCH_lasts ?pgCE ?hdCE ?poCE ?saCE ?mkCE ?kcCE ?nCE_hall ?nCE_plans ?nCE_numbers ?nCE_holds ?tfa ?tfn ?tft ?tfm ?tkN ?tkB ?tkI ?tkS ?z_isinstance ?z_len ?z_list ?z_all ?z_sorted ?z_abs ?z_tuple ?z_dict ?z_range ?z_set
    (case aC => k_is)
    (case aCH => k_is)
    (case aCE => k_is)
    (case a1 => k_is)
    (case i1 => k_is)
    (case l1 => k_is)
    (case c1 => k_is)
    (case k1 => k_is)
    (case a2 => k_is)
    (case i2 => k_is)
    (case l2 => k_is)
    (case c2 => k_is)
    (case k2 => k_is)
    (case a3 => k_is)
    (case i3 => k_is)
    (case l3 => k_is)
    (case c3 => k_is)
    (case k3 => k_is)
    (case a4 => k_is)
    (case i4 => k_is)
    (case l4 => k_is)
    (case c4 => k_is)
    (case k4 => k_is)
    (case a5 => k_is)
    (case i5 => k_is)
    (case l5 => k_is)
    (case c5 => k_is)
    (case k5 => k_is)
    (case a6 => k_is)
    (case i6 => k_is)
    (case l6 => k_is)
    (case c6 => k_is)
    (case k6 => k_is)
    (case a7 => k_is)
    (case i7 => k_is)
    (case l7 => k_is)
    (case c7 => k_is)
    (case k7 => k_is)
    (case a8 => k_is)
    (case i8 => k_is)
    (case l8 => k_is)
    (case c8 => k_is)
    (case k8 => k_is)
    (case a9 => k_is)
    (case i9 => k_is)
    (case l9 => k_is)
    (case c9 => k_is)
    (case k9 => k_is)
    (case a10 => k_is)
    (case i10 => k_is)
    (case l10 => k_is)
    (case c10 => k_is)
    (case k10 => k_is)
    (case a11 => k_is)
    (case i11 => k_is)
    (case l11 => k_is)
    (case c11 => k_is)
    (case k11 => k_is)
    (case a12 => k_is)
    (case i12 => k_is)
    (case l12 => k_is)
    (case c12 => k_is)
    (case k12 => k_is)
    (case a13 => k_is)
    (case i13 => k_is)
    (case l13 => k_is)
    (case c13 => k_is)
    (case k13 => k_is)
    (case a14 => k_is)
    (case i14 => k_is)
    (case l14 => k_is)
    (case c14 => k_is)
    (case k14 => k_is)
    (case a15 => k_is)
    (case i15 => k_is)
    (case l15 => k_is)
    (case c15 => k_is)
    (case k15 => k_is)
    (case a16 => k_is)
    (case i16 => k_is)
    (case l16 => k_is)
    (case c16 => k_is)
    (case k16 => k_is)
    (case a17 => k_is)
    (case i17 => k_is)
    (case l17 => k_is)
    (case c17 => k_is)
    (case k17 => k_is)
    (case a18 => k_is)
    (case i18 => k_is)
    (case l18 => k_is)
    (case c18 => k_is)
    (case k18 => k_is)
    (case a19 => k_is)
    (case i19 => k_is)
    (case l19 => k_is)
    (case c19 => k_is)
    (case k19 => k_is)
    (case a20 => k_is)
    (case i20 => k_is)
    (case l20 => k_is)
    (case c20 => k_is)
    (case k20 => k_is)
    (case a21 => k_is)
    (case i21 => k_is)
    (case l21 => k_is)
    (case c21 => k_is)
    (case k21 => k_is)
    (case a22 => k_is)
    (case i22 => k_is)
    (case l22 => k_is)
    (case c22 => k_is)
    (case k22 => k_is)
    (case a23 => k_is)
    (case l23 => k_is)
    (case c23 => k_is)
    (case k23 => k_is)
    (case a24 => k_is)
    (case l24 => k_is)
    (case c24 => k_is)
    (case k24 => k_is)
    (case a25 => k_is)
    (case l25 => k_is)
    (case c25 => k_is)
    (case k25 => k_is)
    (case a26 => k_is)
    (case l26 => k_is)
    (case c26 => k_is)
    (case k26 => k_is)
    (case a27 => k_is)
    (case l27 => k_is)
    (case c27 => k_is)
    (case k27 => k_is)
    (case a28 => k_is)
    (case l28 => k_is)
    (case c28 => k_is)
    (case k28 => k_is)
    (case a29 => k_is)
    (case l29 => k_is)
    (case c29 => k_is)
    (case k29 => k_is)
    (case a30 => k_is)
    (case l30 => k_is)
    (case c30 => k_is)
    (case k30 => k_is)
    (case a31 => k_is)
    (case l31 => k_is)
    (case c31 => k_is)
    (case k31 => k_is)
    (case a32 => k_is)
    (case l32 => k_is)
    (case c32 => k_is)
    (case k32 => k_is)
    (case a33 => k_is)
    (case l33 => k_is)
    (case c33 => k_is)
    (case k33 => k_is)
    (case a34 => k_is)
    (case l34 => k_is)
    (case c34 => k_is)
    (case k34 => k_is)
    (case pgC => k_is)
    (case hdC => k_is)
    (case poC => k_is)
    (case saC => k_is)
    (case mkC => k_is)
    (case kcC => k_is)
    (case nC_form => k_is)
    (case nC_number => k_is)
    (case nC_count => k_is)
    (case nC_parts => k_is)
    (case nC_own => k_is)
    (case nC_ended => k_is)
    (case nC_waits => k_is)
    (case pgCH => k_is)
    (case hdCH => k_is)
    (case poCH => k_is)
    (case saCH => k_is)
    (case mkCH => k_is)
    (case kcCH => k_is)
    (case nCH_ender => k_is)
    (case nCH_many => k_is)
    (case nCH_there => k_is)
    (case nCH_left => k_is)
    (case nCH_row => k_is)
    (case nCH_lasts => k_is)
    (case pgCE => k_is)
    (case hdCE => k_is)
    (case poCE => k_is)
    (case saCE => k_is)
    (case mkCE => k_is)
    (case kcCE => k_is)
    (case nCE_hall => k_is)
    (case nCE_plans => k_is)
    (case nCE_numbers => k_is)
    (case nCE_holds => k_is)
    (case tfa => k_is)
    (case tfn => k_is)
    (case tft => k_is)
    (case tfm => k_is)
    (case tkN => kit_is)
    (case tkB => kit_is)
    (case tkI => kit_is)
    (case tkS => kit_is)
    (case z_isinstance => k_is)
    (case z_len => k_is)
    (case z_list => k_is)
    (case z_all => k_is)
    (case z_sorted => k_is)
    (case z_abs => k_is)
    (case z_tuple => k_is)
    (case z_dict => k_is)
    (case z_range => k_is)
    (case z_set => k_is)
