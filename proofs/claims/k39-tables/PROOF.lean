import PyProof.Rows.All
import Wide.All
import OpenK.AllK
import Wide.FinOn
import KE.GoesMore
import HandS.ForMost
import HandS.More
import HandS.Rev
import HandS.Wide
import HandS.RaiseMore
import HandS.Evl
import PySem.Challenge.RW_slotwise_k39_whole_tables_bar_prices
set_option Elab.async false
set_option linter.all false
set_option maxRecDepth 100000
set_option maxHeartbeats 4000000
/-! K39, the plain law: families, forests, tables, sizes; no program in sight. -/
namespace K39
/-- a variant: its plug, its slots, its price -/
structure Vr where
  plug : Nat
  slots : List Nat
  price : Option Int

/-- a table's entry -/
def tg (T : List (Option Int)) (s : Nat) : Option Int := (T[s]?).getD none
/-- a sum over slots by a table -/
def acc (T : List (Option Int)) : Int → List Nat → Option Int
  | c, [] => some c
  | c, s :: r => match tg T s with
    | some x => acc T (c + x) r
    | none => none
def costOf (T : List (Option Int)) (v : Vr) : Option Int := match v.price with
  | some p => acc T p v.slots
  | none => none
def sizeOf (T : List (Option Int)) (v : Vr) : Option Int := match v.price with
  | some _ => acc T 1 v.slots
  | none => none

theorem acc_cons_some {T : List (Option Int)} {c x : Int} {s : Nat} {r : List Nat} (h : tg T s = some x) : acc T c (s :: r) = acc T (c + x) r := by
  simp only [acc, h]
theorem acc_cons_none {T : List (Option Int)} {c : Int} {s : Nat} {r : List Nat} (h : tg T s = none) : acc T c (s :: r) = none := by
  simp only [acc, h]
theorem acc_cons_inv {T : List (Option Int)} {c n : Int} {s : Nat} {r : List Nat} (h : acc T c (s :: r) = some n) : ∃ x, tg T s = some x ∧ acc T (c + x) r = some n := by
  cases e : tg T s with
  | none => rw [acc_cons_none e] at h; cases h
  | some x => rw [acc_cons_some e] at h; exact ⟨x, rfl, h⟩
theorem acc_shift {T : List (Option Int)} : ∀ {ss : List Nat} {c n : Int} (d : Int), acc T c ss = some n → acc T (c + d) ss = some (n + d)
  | [], c, n, d, h => by
    have e : c = n := Option.some.inj h
    rw [e]
    rfl
  | s :: r, c, n, d, h => by
    obtain ⟨x, e, h2⟩ := acc_cons_inv h
    rw [acc_cons_some e]
    have q := acc_shift d h2
    rw [show c + d + x = c + x + d by omega]
    exact q
theorem acc_append {T : List (Option Int)} : ∀ {ss rr : List Nat} {c n m : Int}, acc T c ss = some n → acc T n rr = some m → acc T c (ss ++ rr) = some m
  | [], rr, c, n, m, h, h2 => by
    have e : c = n := Option.some.inj h
    rw [e]
    exact h2
  | s :: r, rr, c, n, m, h, h2 => by
    obtain ⟨x, e, h3⟩ := acc_cons_inv h
    show acc T c (s :: (r ++ rr)) = some m
    rw [acc_cons_some e]
    exact acc_append h3 h2
theorem acc_split {T : List (Option Int)} : ∀ {ss rr : List Nat} {c m : Int}, acc T c (ss ++ rr) = some m → ∃ n, acc T c ss = some n ∧ acc T n rr = some m
  | [], rr, c, m, h => ⟨c, rfl, h⟩
  | s :: r, rr, c, m, h => by
    obtain ⟨x, e, h2⟩ := acc_cons_inv (show acc T c (s :: (r ++ rr)) = some m from h)
    obtain ⟨n, h3, h4⟩ := acc_split h2
    exact ⟨n, by rw [acc_cons_some e]; exact h3, h4⟩
theorem acc_base {T : List (Option Int)} {ss : List Nat} {c n : Int} (h : acc T c ss = some n) : acc T 0 ss = some (n - c) := by
  have q := acc_shift (-c) h
  rw [show c + -c = 0 by omega] at q
  rw [q]
  rfl
/-- with positive entries a sum grows -/
theorem acc_pos {T : List (Option Int)} (hp : ∀ s x, tg T s = some x → 1 ≤ x) : ∀ {ss : List Nat} {c n : Int}, acc T c ss = some n → c + (ss.length : Int) ≤ n
  | [], c, n, h => by
    have e : c = n := Option.some.inj h
    rw [e]
    exact Int.le_of_eq (Int.add_zero n)
  | s :: r, c, n, h => by
    obtain ⟨x, e, h2⟩ := acc_cons_inv h
    have q := acc_pos hp h2
    have p := hp s x e
    rw [List.length_cons]
    omega
/-- .. and each entry lies below it -/
theorem acc_lt {T : List (Option Int)} (hp : ∀ s x, tg T s = some x → 1 ≤ x) : ∀ {ss : List Nat} {c n : Int}, acc T c ss = some n → ∀ s ∈ ss, ∃ x, tg T s = some x ∧ c + x ≤ n
  | [], c, n, h => fun s hs => nomatch hs
  | s :: r, c, n, h => fun t ht => by
    obtain ⟨x, e, h2⟩ := acc_cons_inv h
    rcases List.mem_cons.mp ht with rfl | ht
    · have q := acc_pos hp h2
      exact ⟨x, e, by omega⟩
    · obtain ⟨y, e2, h3⟩ := acc_lt hp h2 t ht
      have p := hp s x e
      exact ⟨y, e2, by omega⟩
/-- a sum leans on its own entries alone -/
theorem acc_congr {T U : List (Option Int)} : ∀ {ss : List Nat} {c : Int}, (∀ s ∈ ss, tg T s = tg U s) → acc T c ss = acc U c ss
  | [], c, h => rfl
  | s :: r, c, h => by
    have e := h s List.mem_cons_self
    cases q : tg T s with
    | none => rw [acc_cons_none q, acc_cons_none (e ▸ q)]
    | some x =>
      rw [acc_cons_some q, acc_cons_some (e ▸ q)]
      exact acc_congr fun t ht => h t (List.mem_cons_of_mem _ ht)

/-! ### forests: what stands in the slots, in preorder -/
inductive Forest (F : List Vr) : List Nat → List Nat → Prop where
  | nil : Forest F [] []
  | cons {s n : Nat} {r t : List Nat} {v : Vr} {p : Int} : F[n]? = some v → v.plug = s → v.price = some p → Forest F (v.slots ++ r) t → Forest F (s :: r) (n :: t)
/-- a part's price -/
def prc (F : List Vr) (n : Nat) : Int := match F[n]? with
  | some v => v.price.getD 0
  | none => 0
def psum (F : List Vr) (t : List Nat) : Int := (t.map (prc F)).sum
theorem psum_cons (F : List Vr) (n : Nat) (t : List Nat) : psum F (n :: t) = prc F n + psum F t := by
  unfold psum
  rw [List.map_cons, List.sum_cons]
theorem Forest.append {F : List Vr} {s1 t1 : List Nat} (h : Forest F s1 t1) : ∀ {s2 t2 : List Nat}, Forest F s2 t2 → Forest F (s1 ++ s2) (t1 ++ t2) := by
  induction h with
  | nil => intro s2 t2 k; exact k
  | cons a b c d ih =>
    intro s2 t2 k
    refine .cons a b c ?_
    have q := ih k
    rw [List.append_assoc] at q
    exact q
theorem Forest.parts {F : List Vr} {ss t : List Nat} (h : Forest F ss t) : ∀ n ∈ t, ∃ v p, F[n]? = some v ∧ v.price = some p := by
  induction h with
  | nil => intro n hn; cases hn
  | cons a b c d ih =>
    intro n hn
    rcases List.mem_cons.mp hn with rfl | hn
    · exact ⟨_, _, a, c⟩
    · exact ih n hn
theorem Forest.ne {F : List Vr} {s : Nat} {r t : List Nat} (h : Forest F (s :: r) t) : t ≠ [] := by
  cases h with
  | cons a b c d => intro z; cases z

/-- a table that bars prices: sg = 1 a floor, sg = -1 a ceiling -/
def Judged (F : List Vr) (T : List (Option Int)) (sg : Int) : Prop := ∀ v ∈ F, ∀ c, costOf T v = some c → ∃ x, tg T v.plug = some x ∧ 0 ≤ (c - x) * sg
theorem bars {F : List Vr} {T : List (Option Int)} {sg : Int} (hs : sg = 1 ∨ sg = -1) (J : Judged F T sg) {ss t : List Nat} (h : Forest F ss t) : ∃ b, acc T 0 ss = some b ∧ 0 ≤ (psum F t - b) * sg := by
  induction h with
  | nil =>
    refine ⟨0, rfl, ?_⟩
    rcases hs with rfl | rfl <;> exact Int.le_refl 0
  | cons a b c d ih =>
    rename_i s n r t v p
    obtain ⟨m, hm, hb⟩ := ih
    obtain ⟨k, hk, hr⟩ := acc_split hm
    have hc : costOf T v = some (p + k) := by
      have q := acc_shift p hk
      unfold costOf
      rw [c]
      show acc T p v.slots = some (p + k)
      rw [show (0 : Int) + p = p by omega] at q
      rw [q, Int.add_comm]
    have hv : v ∈ F := List.mem_of_getElem? a
    obtain ⟨x, hx, hj⟩ := J v hv _ hc
    have hr0 := acc_base hr
    have q2 := acc_shift x hr0
    rw [b] at hx
    refine ⟨m - k + x, ?_, ?_⟩
    · rw [acc_cons_some hx]
      rw [show (0 : Int) + x = 0 + x by rfl]
      exact q2
    · rw [psum_cons]
      have hp : prc F n = p := by
        unfold prc
        rw [a]
        show v.price.getD 0 = p
        rw [c]
        rfl
      rw [hp]
      rcases hs with rfl | rfl <;> omega
theorem bar {F : List Vr} {T : List (Option Int)} {sg : Int} (hs : sg = 1 ∨ sg = -1) (J : Judged F T sg) {s : Nat} {t : List Nat} (h : Forest F [s] t) : ∃ x, tg T s = some x ∧ ¬ (psum F t - x) * sg < 0 := by
  obtain ⟨b, hb, q⟩ := bars hs J h
  obtain ⟨x, e, hx⟩ := acc_cons_inv hb
  have e2 : (0 : Int) + x = b := Option.some.inj hx
  refine ⟨x, e, ?_⟩
  rw [show x = b by omega]
  omega
theorem psum_small {F : List Vr} {B : Int} (hB : 0 ≤ B) (hF : ∀ v ∈ F, ∀ p, v.price = some p → -B ≤ p ∧ p ≤ B) : ∀ t : List Nat, -(B * t.length) ≤ psum F t ∧ psum F t ≤ B * t.length
  | [] => by
    show -(B * (0 : Nat)) ≤ 0 ∧ 0 ≤ B * (0 : Nat)
    simp
  | n :: t => by
    have ih := psum_small hB hF t
    have hp : -B ≤ prc F n ∧ prc F n ≤ B := by
      unfold prc
      split
      · rename_i v e
        cases q : v.price with
        | none => show -B ≤ 0 ∧ 0 ≤ B; omega
        | some p => exact hF v (List.mem_of_getElem? e) p q
      · omega
    rw [psum_cons, List.length_cons]
    have e : B * ((t.length + 1 : Nat) : Int) = B * (t.length : Int) + B := by
      rw [show ((t.length + 1 : Nat) : Int) = (t.length : Int) + 1 by omega, Int.mul_add, Int.mul_one]
    rw [e]
    omega
end K39
/-! K39, the plain law: the least sizes are found within as many rounds as there are states. -/
namespace K39
theorem tg_set_self {T : List (Option Int)} {i : Nat} {o : Option Int} (h : i < T.length) : tg (T.set i o) i = o := by
  unfold tg
  rw [List.getElem?_set_self h]
  rfl
theorem tg_set_ne {T : List (Option Int)} {i j : Nat} {o : Option Int} (h : i ≠ j) : tg (T.set i o) j = tg T j := by
  unfold tg
  rw [List.getElem?_set_ne h]
theorem tg_lt {T : List (Option Int)} {i : Nat} {x : Int} (h : tg T i = some x) : i < T.length := by
  by_cases q : i < T.length
  · exact q
  · unfold tg at h
    rw [List.getElem?_eq_none (by omega)] at h
    cases h
/-- the entry falls -/
def Drop (T : List (Option Int)) (s : Nat) (n : Int) : Prop := ∀ m, tg T s = some m → n < m
instance (T : List (Option Int)) (s : Nat) (n : Int) : Decidable (Drop T s n) := by
  unfold Drop
  cases tg T s with
  | none => exact .isTrue (fun m h => nomatch h)
  | some m => exact if h : n < m then .isTrue (fun k e => by cases e; exact h) else .isFalse fun q => h (q m rfl)
/-- the least of what was assigned -/
def lower (n : Int) : Option Int → Int
  | none => n
  | some m => if n < m then n else m
/-- one variant's turn: the table, the least value that was assigned in this round -/
def stp (p : List (Option Int) × Option Int) (v : Vr) : List (Option Int) × Option Int :=
  match sizeOf p.1 v with
  | none => p
  | some n => if Drop p.1 v.plug n then (p.1.set v.plug (some n), some (lower n p.2)) else p
theorem stp_none {p : List (Option Int) × Option Int} {v : Vr} (h : sizeOf p.1 v = none) : stp p v = p := by
  unfold stp
  rw [h]
theorem stp_yes {p : List (Option Int) × Option Int} {v : Vr} {n : Int} (h : sizeOf p.1 v = some n) (d : Drop p.1 v.plug n) : stp p v = (p.1.set v.plug (some n), some (lower n p.2)) := by
  unfold stp
  rw [h]
  exact if_pos d
theorem stp_no {p : List (Option Int) × Option Int} {v : Vr} {n : Int} (h : sizeOf p.1 v = some n) (d : ¬ Drop p.1 v.plug n) : stp p v = p := by
  unfold stp
  rw [h]
  exact if_neg d
/-- T is at most S -/
def Le (T S : List (Option Int)) : Prop := ∀ s m, tg S s = some m → ∃ k, tg T s = some k ∧ k ≤ m
theorem Le.refl (T : List (Option Int)) : Le T T := fun _ m h => ⟨m, h, Int.le_refl m⟩
theorem Le.trans {A B C : List (Option Int)} (h : Le A B) (k : Le B C) : Le A C := fun s m e => by
  obtain ⟨x, e1, l1⟩ := k s m e
  obtain ⟨y, e2, l2⟩ := h s x e1
  exact ⟨y, e2, by omega⟩
theorem Le.set {T : List (Option Int)} {s : Nat} {n : Int} (d : Drop T s n) (h : s < T.length) : Le (T.set s (some n)) T := fun t m e => by
  by_cases q : s = t
  · rw [← q]
    refine ⟨n, tg_set_self h, ?_⟩
    rw [← q] at e
    exact Int.le_of_lt (d m e)
  · exact ⟨m, by rw [tg_set_ne q]; exact e, Int.le_refl m⟩
theorem Le.acc {T S : List (Option Int)} (h : Le T S) : ∀ {ss : List Nat} {c d n : Int}, d ≤ c → acc S c ss = some n → ∃ k, acc T d ss = some k ∧ k ≤ n
  | [], c, d, n, hd, e => ⟨d, rfl, by
    have q : c = n := Option.some.inj e
    omega⟩
  | s :: r, c, d, n, hd, e => by
    obtain ⟨x, e1, e2⟩ := acc_cons_inv e
    obtain ⟨y, e3, l⟩ := h s x e1
    obtain ⟨k, e4, l2⟩ := Le.acc h (show d + y ≤ c + x by omega) e2
    exact ⟨k, by rw [acc_cons_some e3]; exact e4, l2⟩
theorem Le.size {T S : List (Option Int)} (h : Le T S) {v : Vr} {n : Int} (e : sizeOf S v = some n) : ∃ k, sizeOf T v = some k ∧ k ≤ n := by
  unfold sizeOf at e ⊢
  cases q : v.price with
  | none => rw [q] at e; cases e
  | some p =>
    rw [q] at e
    exact h.acc (Int.le_refl 1) e
theorem size_inv {T : List (Option Int)} {v : Vr} {n : Int} (e : sizeOf T v = some n) : (∃ p, v.price = some p) ∧ acc T 1 v.slots = some n := by
  unfold sizeOf at e
  cases q : v.price with
  | none => rw [q] at e; cases e
  | some p =>
    rw [q] at e
    exact ⟨⟨p, rfl⟩, e⟩
theorem size_congr {T U : List (Option Int)} {v : Vr} (h : ∀ s ∈ v.slots, tg T s = tg U s) : sizeOf T v = sizeOf U v := by
  unfold sizeOf
  cases v.price with
  | none => rfl
  | some p => exact acc_congr h

/-- what holds of a table of sizes at any time -/
structure Sane (n : Nat) (F : List Vr) (S : List (Option Int)) : Prop where
  len : S.length = n
  pos : ∀ s m, tg S s = some m → 1 ≤ m
  back : ∀ s m, tg S s = some m → ∃ v ∈ F, v.plug = s ∧ ∃ k, sizeOf S v = some k ∧ k ≤ m
/-- what a round from S has done behind the variants vs -/
structure Rd (n : Nat) (F : List Vr) (S : List (Option Int)) (vs : List Vr) (p : List (Option Int) × Option Int) : Prop where
  sane : Sane n F p.1
  le : Le p.1 S
  same : p.2 = none → p.1 = S ∧ ∀ v ∈ vs, ∀ k, sizeOf S v = some k → ¬ Drop S v.plug k
  /-- what changed has at least the least value -/
  low : ∀ c, p.2 = some c → ∀ s, tg p.1 s ≠ tg S s → ∃ m, tg p.1 s = some m ∧ c ≤ m
  /-- one state took it -/
  took : ∀ c, p.2 = some c → ∃ s, s < n ∧ tg p.1 s = some c ∧ ∀ m, tg S s = some m → c < m
  /-- the variants gone through are no better than the table below it -/
  done : ∀ c, p.2 = some c → ∀ v ∈ vs, ∀ k, sizeOf p.1 v = some k → k ≤ c → ∃ m, tg p.1 v.plug = some m ∧ m ≤ k
theorem sane_step {n : Nat} {F : List Vr} {S : List (Option Int)} {v : Vr} {k : Int} (h : Sane n F S) (hv : v ∈ F) (hp : v.plug < n) (e : sizeOf S v = some k) (d : Drop S v.plug k) : Sane n F (S.set v.plug (some k)) := by
  have hl : v.plug < S.length := by rw [h.len]; exact hp
  have le := Le.set d hl
  refine ⟨by rw [List.length_set]; exact h.len, fun s m q => ?_, fun s m q => ?_⟩
  · by_cases z : v.plug = s
    · rw [← z, tg_set_self hl] at q
      have q' : k = m := Option.some.inj q
      have r := acc_pos h.pos (size_inv e).2
      omega
    · rw [tg_set_ne z] at q
      exact h.pos s m q
  · by_cases z : v.plug = s
    · rw [← z, tg_set_self hl] at q
      have q' : k = m := Option.some.inj q
      obtain ⟨k', e', l⟩ := le.size e
      exact ⟨v, hv, z, k', e', by omega⟩
    · rw [tg_set_ne z] at q
      obtain ⟨u, hu, hp', k1, e1, l1⟩ := h.back s m q
      obtain ⟨k2, e2, l2⟩ := le.size e1
      exact ⟨u, hu, hp', k2, e2, by omega⟩
theorem rd_start {n : Nat} {F : List Vr} {S : List (Option Int)} (h : Sane n F S) : Rd n F S [] (S, none) :=
  ⟨h, Le.refl S, fun _ => ⟨rfl, (fun v hv => nomatch hv)⟩, (fun c e => nomatch e), (fun c e => nomatch e), (fun c e => nomatch e)⟩
theorem lower_le (n : Int) (o : Option Int) : lower n o ≤ n := by
  cases o with
  | none => exact Int.le_refl n
  | some m =>
    show (if n < m then n else m) ≤ n
    split <;> omega
theorem lower_le2 (n : Int) {o : Option Int} {m : Int} (h : o = some m) : lower n o ≤ m := by
  rw [h]
  show (if n < m then n else m) ≤ m
  split <;> omega
theorem rd_step {n : Nat} {F : List Vr} {S : List (Option Int)} {vs : List Vr} {p : List (Option Int) × Option Int} {v : Vr} (h : Rd n F S vs p) (hv : v ∈ F) (hp : v.plug < n) : Rd n F S (vs ++ [v]) (stp p v) := by
  have hmem : ∀ u, u ∈ vs ++ [v] → u ∈ vs ∨ u = v := fun u hu => by
    rcases List.mem_append.mp hu with q | q
    · exact .inl q
    · exact .inr (List.mem_singleton.mp q)
  cases e : sizeOf p.1 v with
  | none =>
    rw [stp_none e]
    refine ⟨h.sane, h.le, fun z => ⟨(h.same z).1, fun u hu k q => ?_⟩, h.low, h.took, fun c z u hu k q l => ?_⟩
    · rcases hmem u hu with hu | rfl
      · exact (h.same z).2 u hu k q
      · rw [(h.same z).1] at e; rw [e] at q; cases q
    · rcases hmem u hu with hu | rfl
      · exact h.done c z u hu k q l
      · rw [e] at q; cases q
  | some k0 =>
    by_cases d : Drop p.1 v.plug k0
    · rw [stp_yes e d]
      have hl : v.plug < p.1.length := by rw [h.sane.len]; exact hp
      have le := Le.set d hl
      refine ⟨sane_step h.sane hv hp e d, le.trans h.le, (fun z => nomatch z), fun c z s q => ?_, fun c z => ?_, fun c z u hu k q l => ?_⟩
      · have ec : lower k0 p.2 = c := Option.some.inj z
        show ∃ m, tg (p.1.set v.plug (some k0)) s = some m ∧ c ≤ m
        replace q : tg (p.1.set v.plug (some k0)) s ≠ tg S s := q
        have l0 := lower_le k0 p.2
        by_cases x : v.plug = s
        · exact ⟨k0, by rw [← x]; exact tg_set_self hl, by omega⟩
        · rw [tg_set_ne x] at q ⊢
          cases z2 : p.2 with
          | none => exact absurd (by rw [(h.same z2).1]) q
          | some c0 =>
            obtain ⟨m, e1, l1⟩ := h.low c0 z2 s q
            have l2 := lower_le2 k0 z2
            exact ⟨m, e1, by omega⟩
      · have ec : lower k0 p.2 = c := Option.some.inj z
        show ∃ s, s < n ∧ tg (p.1.set v.plug (some k0)) s = some c ∧ ∀ m, tg S s = some m → c < m
        have new : k0 = c → ∃ s, s < n ∧ tg (p.1.set v.plug (some k0)) s = some c ∧ ∀ m, tg S s = some m → c < m := fun ek => by
          refine ⟨v.plug, hp, by rw [tg_set_self hl, ek], fun m em => ?_⟩
          obtain ⟨m2, em2, lm⟩ := h.le v.plug m em
          have := d m2 em2
          omega
        cases z2 : p.2 with
        | none =>
          rw [z2] at ec
          exact new ec
        | some c0 =>
          rw [z2] at ec
          replace ec : (if k0 < c0 then k0 else c0) = c := ec
          by_cases lt : k0 < c0
          · rw [if_pos lt] at ec
            exact new ec
          · rw [if_neg lt] at ec
            obtain ⟨s, hs, es, ls⟩ := h.took c0 z2
            have hne : v.plug ≠ s := fun x => by
              have := d c0 (by rw [x]; exact es)
              omega
            exact ⟨s, hs, by rw [tg_set_ne hne, es, ec], fun m em => by have := ls m em; omega⟩
      · have ec : lower k0 p.2 = c := Option.some.inj z
        show ∃ m, tg (p.1.set v.plug (some k0)) u.plug = some m ∧ m ≤ k
        replace q : sizeOf (p.1.set v.plug (some k0)) u = some k := q
        have l0 := lower_le k0 p.2
        have ns := sane_step h.sane hv hp e d
        -- the slots of u lie below c, so none of them is the plug of v
        have below : ∀ s ∈ u.slots, v.plug ≠ s := fun s hs x => by
          obtain ⟨y, ey, ly⟩ := acc_lt ns.pos (size_inv q).2 s hs
          rw [← x, tg_set_self hl] at ey
          have ey' : k0 = y := Option.some.inj ey
          omega
        have same : sizeOf p.1 u = some k := by
          rw [← q]
          exact size_congr fun s hs => (tg_set_ne (below s hs)).symm
        rcases hmem u hu with hu | rfl
        · cases z2 : p.2 with
          | none =>
            obtain ⟨es, hd⟩ := h.same z2
            rw [es] at same
            have nd := hd u hu k same
            have : ∃ m, tg S u.plug = some m ∧ m ≤ k := by
              cases w : tg S u.plug with
              | none => exact absurd (fun m em => by rw [w] at em; cases em) nd
              | some m => exact ⟨m, rfl, Int.not_lt.mp fun lt => nd fun m' em => by rw [w] at em; cases em; exact lt⟩
            obtain ⟨m, em, lm⟩ := this
            rw [← es] at em
            obtain ⟨m2, e2, l2⟩ := le u.plug m em
            exact ⟨m2, e2, by omega⟩
          | some c0 =>
            have l2 := lower_le2 k0 z2
            obtain ⟨m, em, lm⟩ := h.done c0 z2 u hu k same (by omega)
            obtain ⟨m2, e2, l3⟩ := le u.plug m em
            exact ⟨m2, e2, by omega⟩
        · rw [same] at e
          have ek : k = k0 := Option.some.inj e
          exact ⟨k0, tg_set_self hl, by omega⟩
    · rw [stp_no e d]
      have good : ∃ m, tg p.1 v.plug = some m ∧ m ≤ k0 := by
        cases w : tg p.1 v.plug with
        | none => exact absurd (fun m em => by rw [w] at em; cases em) d
        | some m => exact ⟨m, rfl, Int.not_lt.mp fun lt => d fun m' em => by rw [w] at em; cases em; exact lt⟩
      refine ⟨h.sane, h.le, fun z => ⟨(h.same z).1, fun u hu k q => ?_⟩, h.low, h.took, fun c z u hu k q l => ?_⟩
      · rcases hmem u hu with hu | rfl
        · exact (h.same z).2 u hu k q
        · rw [(h.same z).1] at e d
          rw [e] at q
          cases q
          exact d
      · rcases hmem u hu with hu | rfl
        · exact h.done c z u hu k q l
        · rw [e] at q
          cases q
          exact good

/-- distinct numbers below n are at most n -/
theorem nodup_len : ∀ (n : Nat) (l : List Nat), l.Nodup → (∀ x ∈ l, x < n) → l.length ≤ n
  | 0, [], _, _ => Nat.le_refl 0
  | 0, x :: r, _, h => absurd (h x List.mem_cons_self) (Nat.not_lt_zero x)
  | n + 1, l, nd, h => by
    have e := nodup_len n (l.erase n) (nd.erase n) fun x hx => by
      have q := (nd.mem_erase_iff).mp hx
      have := h x q.2
      omega
    have : l.length ≤ (l.erase n).length + 1 := by
      rw [List.length_erase]
      split <;> omega
    omega
/-- ahead of the j-th round, where each one ahead has changed something -/
structure Wk (n : Nat) (F : List Vr) (j : Nat) (S : List (Option Int)) : Prop where
  sane : Sane n F S
  set : ∃ (c : Int) (L : List Nat), L.length = j ∧ L.Nodup ∧ (∀ s ∈ L, s < n ∧ ∃ m, tg S s = some m ∧ m ≤ c) ∧ ∀ v ∈ F, ∀ k, sizeOf S v = some k → k ≤ c → ∃ m, tg S v.plug = some m ∧ m ≤ k
/-- the table that is found -/
structure SizesOk (n : Nat) (F : List Vr) (S : List (Option Int)) : Prop where
  len : S.length = n
  pos : ∀ s m, tg S s = some m → 1 ≤ m
  fix : ∀ v ∈ F, ∀ k, sizeOf S v = some k → ∃ m, tg S v.plug = some m ∧ m ≤ k
  att : ∀ s m, tg S s = some m → ∃ v ∈ F, v.plug = s ∧ sizeOf S v = some m
theorem not_drop {S : List (Option Int)} {s : Nat} {k : Int} (nd : ¬ Drop S s k) : ∃ m, tg S s = some m ∧ m ≤ k := by
  cases w : tg S s with
  | none => exact absurd (fun m em => by rw [w] at em; cases em) nd
  | some m => exact ⟨m, rfl, Int.not_lt.mp fun lt => nd fun m' em => by rw [w] at em; cases em; exact lt⟩
theorem tg_replicate (n s : Nat) : tg (List.replicate n none) s = none := by
  unfold tg
  rw [List.getElem?_replicate]
  split <;> rfl
theorem wk_start (n : Nat) (F : List Vr) : Wk n F 0 (List.replicate n none) := by
  have no : ∀ s m, tg (List.replicate n none) s = some m → False := fun s m e => by
    rw [tg_replicate] at e
    cases e
  refine ⟨⟨List.length_replicate, fun s m e => (no s m e).elim, fun s m e => (no s m e).elim⟩, 0, [], rfl, List.nodup_nil, (fun s hs => nomatch hs), fun v hv k e l => ?_⟩
  have q := acc_pos (fun s m e => (no s m e).elim) (size_inv e).2
  omega
theorem wk_stop {n : Nat} {F : List Vr} {S : List (Option Int)} (h : Wk n F (n + 1) S) : False := by
  obtain ⟨c, L, hl, nd, hm, _⟩ := h.set
  have := nodup_len n L nd fun x hx => (hm x hx).1
  omega
theorem wk_done {n : Nat} {F : List Vr} {j : Nat} {S : List (Option Int)} {p : List (Option Int) × Option Int} (h : Wk n F j S) (r : Rd n F S F p) (z : p.2 = none) : SizesOk n F p.1 := by
  obtain ⟨e, hd⟩ := r.same z
  rw [e]
  refine ⟨h.sane.len, h.sane.pos, fun v hv k q => not_drop (hd v hv k q), fun s m q => ?_⟩
  obtain ⟨v, hv, hp, k, ek, lk⟩ := h.sane.back s m q
  obtain ⟨m2, e2, l2⟩ := not_drop (hd v hv k ek)
  rw [hp, q] at e2
  have : m = m2 := Option.some.inj e2
  have : k = m := by omega
  exact ⟨v, hv, hp, by rw [ek, this]⟩
theorem wk_next {n : Nat} {F : List Vr} {j : Nat} {S : List (Option Int)} {p : List (Option Int) × Option Int} {c' : Int} (h : Wk n F j S) (r : Rd n F S F p) (z : p.2 = some c') : Wk n F (j + 1) p.1 := by
  obtain ⟨c, L, hl, nd, hm, hg⟩ := h.set
  obtain ⟨s0, hs0, es0, ls0⟩ := r.took c' z
  -- what is new lies above c
  have above : c < c' := by
    refine Int.not_le.mp fun hc => ?_
    obtain ⟨v, hv, hp, k, ek, lk⟩ := r.sane.back s0 c' es0
    -- the slots of v lie below c', so they did not change in this round
    have same : sizeOf S v = some k := by
      rw [← ek]
      refine size_congr fun s hs => ?_
      refine Classical.byContradiction fun ne => ?_
      obtain ⟨y, ey, ly⟩ := acc_lt r.sane.pos (size_inv ek).2 s hs
      obtain ⟨m, em, lm⟩ := r.low c' z s fun q => ne q.symm
      rw [ey] at em
      have : y = m := Option.some.inj em
      omega
    obtain ⟨m, em, lm⟩ := hg v hv k same (by omega)
    rw [hp] at em
    have := ls0 m em
    omega
  refine ⟨r.sane, c', s0 :: L, by rw [List.length_cons, hl], ?_, fun s hs => ?_, fun v hv k q l => r.done c' z v hv k q l⟩
  · refine List.nodup_cons.mpr ⟨fun hin => ?_, nd⟩
    obtain ⟨_, m, em, lm⟩ := hm s0 hin
    have := ls0 m em
    omega
  · rcases List.mem_cons.mp hs with rfl | hs
    · exact ⟨hs0, c', es0, Int.le_refl _⟩
    · obtain ⟨h1, m, em, lm⟩ := hm s hs
      obtain ⟨m2, e2, l2⟩ := r.le s m em
      exact ⟨h1, m2, e2, by omega⟩
end K39
/-! K39: a layer of short words over the hand layer. -/
namespace K39
open PySem PySem.Spec PyProof.Rows L2 RT SkE
def topS (i : Nat) : Stmt := PySem.Challenge.pw_slotwise_k39_whole_tables_bar_prices.main.body.getD i (.Pass ⟨0, 0, 0, 0⟩)
/-- the built-in names that the text uses and does not bind -/
structure Bi (mg : Str → Option Value) : Prop where
  abs : mg "abs" = none
  enumerate : mg "enumerate" = none
  int : mg "int" = none
  len : mg "len" = none
  list : mg "list" = none
  max : mg "max" = none
  min : mg "min" = none
  range : mg "range" = none
  repr : mg "repr" = none
  reversed : mg "reversed" = none
  sum : mg "sum" = none
  tuple : mg "tuple" = none
/-- the def called x keeps the promise sp -/
def Cal (P : Program) (w : World) (K : PySem.W.Frag) (mg : Str → Option Value) (base : Heap) (x : Str) (ps : List Str) (k : Nat) (sp : Sp) : Prop :=
  ∃ (f : Addr) (fd : FuncData), FnOk P w K mg base CX0 k f fd ps sp ∧ mg x = some (.ref f) ∧ PySem.W.keepIn K (.ref f) = true ∧ Binds K fd ps []
theorem pe_cal {X : Cx} {x : Str} {ps : List Str} {k j : Nat} {sp : Sp} {p pos : Pos} {e : Expr} {es : List Expr} {t : TA} (C : Cal X.prog X.w X.K X.mg X.base x ps k sp) (hr : Room j X.A) (hk : k ≤ j) (hg : Gl X x) (ha : PA X (e :: es) t)
    (hdb : (x == ("__debug__" : Str)) = false := by decide)
    (he : starEach (e :: es) X.env = (false, eval e X.env) :: starEach es X.env := by rfl) (hpl : (backTo pos (starEach es X.env)).any (·.1) = false := by rfl) :
    PE X (.Call (.Name x p) (e :: es) [] pos) (tCall sp [] E0 t) := by
  obtain ⟨f, fd, F, hm, kp, hb⟩ := C
  exact pe_call F (hr.mono hk) hg hm kp hb .nil pass0 ha hdb he hpl

/-! ### repr of a bool -/
theorem call_repr_bl {X : Cx} : CallR X (.builtin "repr") (fun xs H Q => ∃ b, xs = [.bl b] ∧ Q (.str (if b then "True" else "False")) H) := by
  intro pn s σ H vs us Q I r h
  obtain ⟨b, rfl, q⟩ := h
  cases r with
  | cons r1 rr =>
    cases rr
    cases r1
    exact PySem.P.repr_of_bool ⟨.str _, H, I.tok _, ⟨_, rfl⟩, q⟩

/-! ### enumerate(tuple) -/
theorem en_new (t : Addr) (items : Array Value) :
    Meets (Builtin.«enumerate.__new__» ⟨[.type "enumerate", .ref t], []⟩) (fun _ R s => s.heap.IsTuple t items ∧
      R (.ok (.ret (.ref (s.heap.push { cls := .type "tuple_iterator", data := .fields #[.ref t, .int 0 0] }).objs.size)))
        { s with heap := (s.heap.push { cls := .type "tuple_iterator", data := .fields #[.ref t, .int 0 0] }).push { cls := .type "enumerate", data := .fields #[.none, .bool false, .ref s.heap.objs.size, rawInt 0, .none, .none] } }) :=
  .of_wp fun pg wd A R st h => by
    obtain ⟨hp, gn, dr, tk, ws⟩ := st
    obtain ⟨ht, h⟩ := h
    have sb := sub_enumerate
    have go : ∀ {B : Around} {E : Value → Shared → Prop} {Q : Value → Shared → Prop}, Q (.ref hp.objs.size) ⟨hp.push { cls := .type "tuple_iterator", data := .fields #[.ref t, .int 0 0] }, gn, dr, tk, ws⟩ → wpAny (model pg wd) B (pyIter (.ref t)) Q E ⟨hp, gn, dr, tk, ws⟩ :=
      fun q => wpAny_pyIter_tuple (s := ⟨hp, gn, dr, tk, ws⟩) ht q
    wp_walk using go
    refine wpAny_stack_any fun st => wpAny_pure ?_
    split
    · rename_i c _ _ _ _ _
      cases (c == Value.type "enumerate") <;> (wp_walk using go; exact ⟨_, rfl, h⟩)
    · wp_walk using go
      exact ⟨_, rfl, h⟩

section
variable {prog : Program} {w : World} {A : Around} {E : Value → Shared → Prop} {s : Shared}
theorem call_en {a : Addr} {items : Array Value} {Q : Value → Shared → Prop} (ht : s.heap.IsTuple a items)
    (h : ∀ g, IsEnum g (s.heap.objs.size + 1) s.heap.objs.size 0 .none → g.IsTupleIter s.heap.objs.size a 0 →
      (∀ b o, s.heap.get? b = some o → g.get? b = some o) → Q (.ref (s.heap.objs.size + 1)) { s with heap := g }) :
    wpAny (model prog w) A (call (.type "enumerate") [.ref a]) Q E s := by
  refine callType_new F.called_enumerate (by decide) (F.typeCall_enumerate_1 _) (F.newCall_enumerate_1 _) (fun obj => F.args_object_init_2 obj _) F.entry_enumerate_new (en_new a items) ⟨ht, ?_⟩
  have hsize : (s.heap.push { cls := .type "tuple_iterator", data := .fields #[.ref a, .int 0 0] }).objs.size = s.heap.objs.size + 1 := Heap.size_push ..
  show _ ∧ _
  rw [hsize]
  have he : IsEnum ((s.heap.push { cls := .type "tuple_iterator", data := .fields #[.ref a, .int 0 0] }).push { cls := .type "enumerate", data := .fields #[.none, .bool false, .ref s.heap.objs.size, rawInt 0, .none, .none] }) (s.heap.objs.size + 1) s.heap.objs.size 0 .none := by
    have q := Heap.get?_push_size (s.heap.push { cls := .type "tuple_iterator", data := .fields #[.ref a, .int 0 0] }) (o := { cls := .type "enumerate", data := .fields #[.none, .bool false, .ref s.heap.objs.size, rawInt 0, .none, .none] }) rfl
    rw [hsize] at q
    exact q
  exact ⟨⟨_, he, rfl⟩, h _ he ⟨_, Heap.get?_push_of_some _ (Heap.get?_push_size _ rfl), rfl, rfl⟩ fun b o x => Heap.get?_push_of_some _ (Heap.get?_push_of_some _ x)⟩
end
/-- the tuple at a, of n items, each in a new pair with itm number -/
def ItE (K : PySem.W.Frag) (a : Addr) (n : Nat) : It :=
  ⟨fun i H => i < n ∧ ∃ (xs : List V) (x : V), xs.length = n ∧ SqT K H a xs ∧ xs[i]? = some x,
   fun i H v H' => ∃ (T : Addr) (x : V), v = .ref T ∧ H T = none ∧ H' = upd H T (.tup [.int ((i : Nat) : Int), x]) ∧ ∀ ys, SqT K H a ys → ys[i]? = some x,
   fun i H => n ≤ i ∧ ∃ xs : List V, xs.length = n ∧ SqT K H a xs⟩
theorem en_apart {h : Heap} {e it a : Addr} {i : Int} {old : Value} {items : Array Value} (he : IsEnum h e it i old) (ht : h.IsTuple a items) : e ≠ a := fun z => by
  obtain ⟨o, ho, hc, _⟩ := ht
  rw [← z, he] at ho
  have eo := Option.some.inj ho
  rw [← eo] at hc
  exact absurd (show Value.type "enumerate" = Value.type "tuple" from hc) (by decide)
theorem turn_en {P : Program} {w : World} {K : PySem.W.Frag} {es : List Expr} {k0 : Nat} {tp : Pos} (a e it : Addr) (n : Nat) :
    Turn P w K (.Tuple es k0 tp) (ItE K a n) [e, it] e (fun i h => (∃ old, IsEnum h e it ((i : Nat) : Int) old) ∧ h.IsTupleIter it a i ∧ e ≠ it ∧ a ≠ it ∧ i ≤ n) where
  mem := List.mem_cons_self
  obj := fun i h st b hb => by
    obtain ⟨⟨old, he⟩, ⟨o, ho, _, hd⟩, _⟩ := st
    rcases List.mem_cons.mp hb with z | z
    · rw [z]
      exact ⟨_, he, fun v q => nomatch q⟩
    · rw [List.mem_singleton.mp z]
      exact ⟨o, ho, fun v q => by rw [hd] at q; cases q⟩
  keep := fun i h h' st k => by
    obtain ⟨⟨old, he⟩, hi, r⟩ := st
    exact ⟨⟨old, k e (by simp) _ he⟩, hi.at fun o q => k it (by simp) o q, r⟩
  item := by
    intro X eP eW eK hc i pins s σ H E I fpk st gl0
    subst eP eW eK
    obtain ⟨⟨old, he⟩, hit, hne, hai, hin⟩ := st
    obtain ⟨inb, xs, x, hn, qAt, xAt⟩ := gl0
    obtain ⟨itm, rel, p, hsize⟩ := I.tuple qAt
    obtain ⟨u, hAt, rAt⟩ := rel.get xAt
    have ht : s.heap.IsTuple a itm.toArray := p
    have hl := rel.length
    have hea := en_apart he ht
    have heLt : e < s.heap.objs.size := Heap.lt_size he
    have hiLt : it < s.heap.objs.size := by
      obtain ⟨_, q, _⟩ := hit
      exact Heap.lt_size q
    refine wpAny_pyNext_enum_itemD (Draws.tuple (A := X.A.in1) (show X.A.in1.handled = none from I.ok.hd hc) it a hai itm.toArray) he ⟨hit, ht⟩ (by simp only [List.size_toArray]; omega) hne (fun z => ?_) fun y g tk hy ho hst hT hsz hk => ?_
    · rcases List.mem_cons.mp z with z | z
      · exact hne z
      · exact hea (List.mem_singleton.mp z)
    have ey : u = y := Option.some.inj ((show itm.toArray[i]? = some u by simpa using hAt).symm.trans hy)
    subst ey
    refine ⟨_, rfl, wpAny_letOwnedTupleGo_enum (s := { s with heap := g, toks := tk + 1 }) ho fun g2 he2 sb => ?_⟩
    have hT2 : g2.get? s.heap.objs.size = some { cls := .type "tuple", data := .seq #[.int i tk, u] } := (sb.2 _ (Nat.ne_of_gt heLt)).trans hT
    have new : ObjOk X.prog X.w (upd H s.heap.objs.size (.tup [.int ((i : Nat) : Int), x])) g2 s.heap.objs.size (.tup [.int ((i : Nat) : Int), x]) :=
      ⟨by show 2 ≤ sizeLine; decide, [.int i tk, u], .cons ⟨_, rfl⟩ (.cons rAt .nil), ⟨_, hT2, rfl, _, rfl⟩⟩
    have I1 : Inv X pins σ (upd H s.heap.objs.size (.tup [.int ((i : Nat) : Int), x])) { s with heap := g2, toks := tk + 1 } :=
      I.turnedNew (ch := [e, it]) (fun b ob hb q => (sb.2 b (fun z => hb (by simp [z]))).trans (hk b ob (fun z => hb (by simp [z])) (fun z => hb (by simp [z])) q)) fpk (Nat.le_refl _) new
    refine ⟨.ref s.heap.objs.size, _, I1, rfl, ⟨_, x, rfl, I.hok.fresh (Nat.le_refl _), rfl, fun ys hy => by rw [I.tuple_inj hy qAt]; exact xAt⟩, ⟨⟨u, ?_⟩, hst.1.at fun o q => (sb.2 it (Ne.symm hne)).trans q, hne, hai, by omega⟩, fun b hb => ?_⟩
    · rw [show ((i + 1 : Nat) : Int) = (i : Int) + 1 by omega]
      exact he2
    · have hb' : b < s.heap.objs.size := by
        rcases List.mem_cons.mp hb with z | z
        · rw [z]
          exact heLt
        · rw [List.mem_singleton.mp z]
          exact hiLt
      rw [upd_ne (Nat.ne_of_lt hb')]
      exact (fpk b hb).1
  done := by
    intro X eP eW eK hc i pins s σ H E I fpk st gl0
    subst eP eW eK
    obtain ⟨⟨old, he⟩, hit, hne, hai, hin⟩ := st
    obtain ⟨above, xs, hn, qAt⟩ := gl0
    obtain ⟨itm, rel, p, hsize⟩ := I.tuple qAt
    have ht : s.heap.IsTuple a itm.toArray := p
    have hl := rel.length
    obtain ⟨k0, k1, k2, k3, k4, k5⟩ := fpk it (by simp)
    have hi : i = itm.toArray.size := by
      simp only [List.size_toArray]
      omega
    rw [hi] at hit
    exact wpAny_pyNext_enum_endD (Draws.tuple (A := X.A.in1) (show X.A.in1.handled = none from I.ok.hd hc) it a hai itm.toArray) he ⟨hit, ht⟩ fun g eb => ⟨rfl, I.turned (t' := s.toks) (fun b o hb q => eb b o hb q) k0 k1 k3 k4 k5⟩
  self := fun A i s Q E st h => by
    obtain ⟨⟨_, he⟩, _⟩ := st
    exact wpAny_pyIter_enum he h
def iEn (K : PySem.W.Frag) (te : TE) : TI := fun σ H R => te σ H fun v H1 => ∃ (a : Addr) (xs : List V), v = .ref a ∧ SqT K H1 a xs ∧ R (ItE K a xs.length) H1
theorem pi_en {X : Cx} {e : Expr} {te : TE} {p pos tp : Pos} {es : List Expr} {k0 : Nat} (gl0 : Gl X "enumerate") (hm : X.mg "enumerate" = none) (he : PE X e te) (hs : starEach [e] X.env = (false, eval e X.env) :: starEach [] X.env := by rfl) :
    PI X (.Tuple es k0 tp) (.Call (.Name "enumerate" p) [e] [] pos) (iEn X.K te) := by
  refine ⟨fun pins s σ H R I h => ?_⟩
  refine Call_ (ld_blt I gl0 hm PyProof.Rows.boot_enumerate (PyProof.Rows.callWith_type1 (args_cons (thn (he.run pins s σ H _ I h) fun u s1 ⟨v, H1, I1, r1, q1⟩ => args_nil ?_) hs) hs rfl))
  obtain ⟨a, xs, ev, qAt, q⟩ := q1
  subst ev
  obtain rfl : u = Value.ref a := r1
  obtain ⟨itm, rel, p', hsize⟩ := I1.tuple qAt
  have ht : s1.heap.IsTuple a itm.toArray := p'
  have hal : a < s1.heap.objs.size := by
    obtain ⟨_, q, _⟩ := ht
    exact Heap.lt_size q
  refine call_en ht fun g hE hit hk => wpAny_pyIter_enum hE ?_
  have I2 : Inv X pins σ H1 { s1 with heap := g } := I1.kept (t' := s1.toks) hk
  refine ⟨s1.heap.objs.size + 1, [s1.heap.objs.size + 1, s1.heap.objs.size], _, _, H1, rfl, I2, turn_en a (s1.heap.objs.size + 1) s1.heap.objs.size xs.length, ⟨⟨.none, hE⟩, hit, Nat.succ_ne_self _, Nat.ne_of_lt hal, Nat.zero_le _⟩, fun b hb => ?_, q⟩
  have above : s1.heap.objs.size ≤ b := by
    rcases List.mem_cons.mp hb with z | z
    · rw [z]
      exact Nat.le_add_right _ _
    · rw [List.mem_singleton.mp z]
      exact Nat.le_refl _
  exact I1.fpOk above (I1.hok.fresh above)
/-- a loop over enumerate(a tuple) -/
theorem for_en {K : PySem.W.Frag} {a : Addr} {xs : List V} {g : TG} {tb : TS} {D : Ends} {σ : L2.St} {H : Hp} (Pv : Nat → L2.St → Hp → Prop) (h0 : Pv 0 σ H) (qAt : ∀ i σ H, Pv i σ H → SqT K H a xs)
    (hs : ∀ (i : Nat) (x : V) (T : Addr) (σ : L2.St) (H : Hp), xs[i]? = some x → Pv i σ H → H T = none → g (.ref T) σ (upd H T (.tup [.int ((i : Nat) : Int), x])) fun σ2 H2 => tb { D with nx := Pv (i + 1), ct := Pv (i + 1), bk := D.nx } σ2 H2)
    (hd : ∀ σ H, Pv xs.length σ H → D.nx σ H) :
    ∃ Wd : Nat → Nat → L2.St → Hp → Prop, (∃ m, Wd 0 m σ H) ∧ ∀ i m σ H, Wd i m σ H → ((ItE K a xs.length).stop i H ∧ D.nx σ H) ∨ ((ItE K a xs.length).go i H ∧ ∃ N : L2.St → Hp → Prop, (∀ σ' H', N σ' H' → ∃ m', m' < m ∧ Wd (i + 1) m' σ' H') ∧ ∀ v H', (ItE K a xs.length).yld i H v H' → g v σ H' fun σ2 H2 => tb { D with nx := N, ct := N, bk := D.nx } σ2 H2) := by
  refine ⟨fun i m σ H => i ≤ xs.length ∧ m = xs.length - i ∧ Pv i σ H, ⟨xs.length, Nat.zero_le _, rfl, h0⟩, ?_⟩
  rintro i m σ H ⟨hi, rfl, p⟩
  have q := qAt i σ H p
  by_cases inb : i < xs.length
  · have xAt : xs[i]? = some xs[i] := List.getElem?_eq_getElem inb
    refine .inr ⟨⟨inb, xs, _, rfl, q, xAt⟩, Pv (i + 1), fun σ' H' p' => ⟨xs.length - (i + 1), by omega, inb, rfl, p'⟩, fun v H' y => ?_⟩
    obtain ⟨T, x, rfl, nT, rfl, hy⟩ := y
    exact hs i x T σ H (hy xs q) p nT
  · obtain rfl : i = xs.length := by omega
    exact .inl ⟨⟨Nat.le_refl _, xs, rfl, q⟩, hd σ H p⟩
end K39
/-! K39: heaps, what stands in them, the steps of a reading. -/
namespace K39
open PySem PySem.Spec PyProof.Rows L2 RT SkE

/-! ### readings by name -/
def jIsN : R2 := fun x y H Q => y = .non ∧ Q (.bl (decide (x = .non))) H
def jNotN : R2 := fun x y H Q => y = .non ∧ Q (.bl (!decide (x = .non))) H
def jAbs : List V → Hp → VK → Prop := fun xs H Q => ∃ i, xs = [.int i] ∧ Q (.int (if i < 0 then -i else i)) H
def jMax : List V → Hp → VK → Prop := fun xs H Q => ∃ i j, xs = [.int i, .int j] ∧ Q (.int (if j > i then j else i)) H
def jMin : List V → Hp → VK → Prop := fun xs H Q => ∃ i j, xs = [.int i, .int j] ∧ Q (.int (if j < i then j else i)) H
def jInt : List V → Hp → VK → Prop := fun xs H Q => (∃ i, xs = [.int i] ∧ Q (.int i) H) ∨ ∃ k, xs = [.bl k] ∧ Q (.int (if k then 1 else 0)) H
def jLen (K : PySem.W.Frag) : List V → Hp → VK → Prop := fun xs H Q => ∃ p ys, xs = [.ref p] ∧ (SqL K H p ys ∨ SqT K H p ys) ∧ Q (.int ys.length) H
def jList (K : PySem.W.Frag) : List V → Hp → VK → Prop := fun xs H Q => ∃ p ys, xs = [.ref p] ∧ (SqL K H p ys ∨ SqT K H p ys) ∧ ∀ l, H l = none → Q (.ref l) (upd H l (.lst ys))
def jTuple (K : PySem.W.Frag) : List V → Hp → VK → Prop := fun xs H Q => ∃ p ys, xs = [.ref p] ∧ ((SqL K H p ys ∧ ∀ l, H l = none → Q (.ref l) (upd H l (.tup ys))) ∨ (SqT K H p ys ∧ Q (.ref p) H))
def jReprB : List V → Hp → VK → Prop := fun xs H Q => ∃ b, xs = [.bl b] ∧ Q (.str (if b then "True" else "False")) H
def jReprI : List V → Hp → VK → Prop := fun xs H Q => ∃ i, xs = [.int i] ∧ i.natAbs.log2 < 1920 ∧ Q (.str (toString i)) H
def jIns : V → List V → Hp → VK → Prop := fun x vs H Q => ∃ (l : Addr) (xs : List V) (i : Int) (y : V), x = .ref l ∧ vs = [.int i, y] ∧ H l = some (.lst xs) ∧ xs.length < sizeLine ∧ 0 ≤ i ∧ i < 2 ^ 63 ∧ Q .non (upd H l (.lst (xs.take i.toNat ++ [y] ++ xs.drop i.toNat)))
def jTru (K : PySem.W.Frag) (te : TE) : TT := fun σ H Q => te σ H fun x H' => ∃ k, TruV K x H' k ∧ Q k H'
section
variable {X : Cx}
theorem o_isN : OpR X (compareOp .Is) jIsN := op_isN
theorem o_notN : OpR X (compareOp .IsNot) jNotN := op_notN
theorem c_abs : CallR X (.builtin "abs") jAbs := call_abs
theorem c_max (hc : X.calm = true) : CallR X (.builtin "max") jMax := call_max2 hc
theorem c_min (hc : X.calm = true) : CallR X (.builtin "min") jMin := call_min2 hc
theorem c_int : CallR X (.type "int") jInt := call_int1
theorem c_len : CallR X (.builtin "len") (jLen X.K) := call_len_seq
theorem c_list : CallR X (.type "list") (jList X.K) := call_list_of
theorem c_tuple : CallR X (.type "tuple") (jTuple X.K) := call_tuple_of
theorem c_lenK {K : PySem.W.Frag} (h : X.K = K) : CallR X (.builtin "len") (jLen K) := h ▸ c_len
theorem c_listK {K : PySem.W.Frag} (h : X.K = K) : CallR X (.type "list") (jList K) := h ▸ c_list
theorem c_tupleK {K : PySem.W.Frag} (h : X.K = K) : CallR X (.type "tuple") (jTuple K) := h ▸ c_tuple
theorem c_sumK {K : PySem.W.Frag} (hc : X.calm = true) (h : X.K = K) : CallR X (.builtin "sum") (rSum K) := h ▸ cr_sum hc
theorem ix_tupK {K : PySem.W.Frag} (h : X.K = K) : IxR X (rIxT K) := h ▸ ix_tup
theorem ix_listK {K : PySem.W.Frag} (h : X.K = K) : IxR X (rIxL K) := h ▸ ix_list
theorem ix_seqK {K : PySem.W.Frag} (h : X.K = K) : IxR X (rIx K) := h ▸ ix_seq
theorem sl_tupK {K : PySem.W.Frag} (h : X.K = K) : SlR X (rSlT K) := h ▸ sl_tup
theorem c_reprB : CallR X (.builtin "repr") jReprB := call_repr_bl
theorem c_reprI : CallR X (.builtin "repr") jReprI := call_repr_int
theorem m_insert : MtR X "list.insert" jIns := mt_insert
theorem p_truth {a : Expr} {ta : TE} (ha : PE X a ta) (he : ∀ whole, isTrue a X.env whole = (do let v ← whole; standAt a.pos; holding [v] (truthy v))) : PT X a (jTru X.K ta) := pt_truth ha he
end

instance (i j : Int) : Decidable (CMulW i j) := by
  unfold CMulW
  exact inferInstance
/-! ### steps -/
section
variable {σ : L2.St} {H : Hp} {Q : VK} {QB : Bool → Hp → Prop} {QL : List V → Hp → Prop} {R : It → Hp → Prop} {D : Ends} {te ta tb : TE} {t u : TS} {c c2 : TT} {tr : TA} {K : PySem.W.Frag} {p : Addr} {xs : List V} {v x y : V} {i j : Int}
theorem w_var {n : Nat} (hv : σ[n]? = some (some v)) (q : Q v H) : tVar n σ H Q := ⟨v, hv, q⟩
theorem w_c (q : Q v H) : tC v σ H Q := q
theorem w_op {r : R2} (q : ta σ H fun x H1 => tb σ H1 fun y H2 => r x y H2 Q) : tOp r ta tb σ H Q := q
theorem w_un {r : V → Hp → VK → Prop} (q : ta σ H fun x H1 => r x H1 Q) : tUn r ta σ H Q := q
theorem w_U {g : Int → V} (q : Q (g i) H) : rU g (.int i) H Q := ⟨i, rfl, q⟩
theorem w_cons (q : ta σ H fun x H1 => tr σ H1 fun xs H2 => QL (x :: xs) H2) : tCons ta tr σ H QL := q
theorem w_nil (q : QL [] H) : tNil σ H QL := q
theorem w_tup (q : tr σ H fun xs H1 => xs.length ≤ sizeLine ∧ ∀ p, H1 p = none → Q (.ref p) (upd H1 p (.tup xs))) : tTup tr σ H Q := q
theorem w_lst (q : tr σ H fun xs H1 => xs.length ≤ sizeLine ∧ ∀ p, H1 p = none → Q (.ref p) (upd H1 p (.lst xs))) : tLst tr σ H Q := q
theorem w_cb {r : List V → Hp → VK → Prop} (q : tr σ H fun vs H1 => r vs H1 Q) : tCB r tr σ H Q := q
theorem w_cal {sp : Sp} (q : tr σ H fun vs H1 => sp vs H1 Q E0) : tCall sp [] E0 tr σ H Q := by
  have e : (fun vs H1 => sp (vs ++ []) H1 Q E0) = fun vs H1 => sp vs H1 Q E0 := by
    funext vs H1
    rw [List.append_nil]
  show tr σ H fun vs H1 => sp (vs ++ []) H1 Q E0
  rw [e]
  exact q
theorem w_bm {T : String} {r : V → List V → Hp → VK → Prop} (q : te σ H fun x H1 => tyV K T x H1 ∧ tr σ H1 fun xs H2 => r x xs H2 Q) : tBM K T r te tr σ H Q := q
theorem w_bm0 {T : String} {r : V → List V → Hp → VK → Prop} (q : te σ H fun x H1 => tyV K T x H1 ∧ r x [] H1 Q) : tBM0 K T r te σ H Q := q
theorem w_tyL (h : H p = some (.lst xs)) {Z : Prop} (q : Z) : tyV K "list" (.ref p) H ∧ Z := ⟨.inl ⟨rfl, _, SqL.of h⟩, q⟩
theorem w_test (q : te σ H fun x H' => ∃ k, x = .bl k ∧ QB k H') : tTest te σ H QB := q
theorem w_bl {b : Bool} {Z : Bool → Prop} (q : Z b) : ∃ k, V.bl b = .bl k ∧ Z k := ⟨b, rfl, q⟩
theorem w_and (q : c σ H fun b H1 => if b = true then c2 σ H1 QB else QB false H1) : tAnd c c2 σ H QB := q
theorem w_or (q : c σ H fun b H1 => if b = true then QB true H1 else c2 σ H1 QB) : tOr c c2 σ H QB := q
theorem w_not (q : c σ H fun b H1 => QB (!b) H1) : tNot c σ H QB := q
theorem w_tru (q : te σ H fun x H' => ∃ k, TruV K x H' k ∧ QB k H') : jTru K te σ H QB := q
theorem w_I0 {g : Int → Int → V} (q : Q (g i j) H) : rI0 g (.int i) (.int j) H Q := ⟨i, j, rfl, rfl, q⟩
theorem w_I {C : Int → Int → Prop} {g : Int → Int → V} (hc : C i j) (q : Q (g i j) H) : rI C g (.int i) (.int j) H Q := ⟨i, j, rfl, rfl, hc, q⟩
theorem w_eqI (q : Q (.bl (decide (i = j))) H) : rEq (.int i) (.int j) H Q := by
  refine ⟨rfl, ?_⟩
  have e : decide (V.int i = V.int j) = decide (i = j) := by
    by_cases h : i = j
    · rw [h, decide_eq_true rfl, decide_eq_true rfl]
    · rw [decide_eq_false h, decide_eq_false (fun z => h (V.int.inj z))]
  rw [e]
  exact q
theorem w_isN (q : Q (.bl (decide (x = .non))) H) : jIsN x .non H Q := ⟨rfl, q⟩
theorem w_notN (q : Q (.bl (!decide (x = .non))) H) : jNotN x .non H Q := ⟨rfl, q⟩
theorem w_ixL (h : H p = some (.lst xs)) (ha : atI xs i = some v) (q : Q v H) : rIxL K (.ref p) (.int i) H Q := ⟨p, xs, i, v, rfl, rfl, SqL.of h, ha, q⟩
theorem w_ixT (h : H p = some (.tup xs)) (ha : atI xs i = some v) (q : Q v H) : rIxT K (.ref p) (.int i) H Q := ⟨p, xs, i, v, rfl, rfl, SqT.of h, ha, q⟩
theorem w_sL (q : rIxL K x y H Q) : rIx K x y H Q := .inl q
theorem w_sT (q : rIxT K x y H Q) : rIx K x y H Q := .inr (.inl q)
theorem w_abs (q : Q (.int (if i < 0 then -i else i)) H) : jAbs [.int i] H Q := ⟨i, rfl, q⟩
theorem w_max (q : Q (.int (if j > i then j else i)) H) : jMax [.int i, .int j] H Q := ⟨i, j, rfl, q⟩
theorem w_min (q : Q (.int (if j < i then j else i)) H) : jMin [.int i, .int j] H Q := ⟨i, j, rfl, q⟩
theorem w_int (q : Q (.int i) H) : jInt [.int i] H Q := .inl ⟨i, rfl, q⟩
theorem w_intB {b : Bool} (q : Q (.int (if b then 1 else 0)) H) : jInt [.bl b] H Q := .inr ⟨b, rfl, q⟩
theorem w_lenL (h : H p = some (.lst xs)) (q : Q (.int xs.length) H) : jLen K [.ref p] H Q := ⟨p, xs, rfl, .inl (SqL.of h), q⟩
theorem w_lenT (h : H p = some (.tup xs)) (q : Q (.int xs.length) H) : jLen K [.ref p] H Q := ⟨p, xs, rfl, .inr (SqT.of h), q⟩
theorem w_list (h : SqL K H p xs) (q : ∀ l, H l = none → Q (.ref l) (upd H l (.lst xs))) : jList K [.ref p] H Q := ⟨p, xs, rfl, .inl h, q⟩
theorem w_tuple (h : H p = some (.lst xs)) (q : ∀ l, H l = none → Q (.ref l) (upd H l (.tup xs))) : jTuple K [.ref p] H Q := ⟨p, xs, rfl, .inl ⟨SqL.of h, q⟩⟩
theorem w_app (h : H p = some (.lst xs)) (hz : xs.length < sizeLine) (q : Q .non (upd H p (.lst (xs ++ [y])))) : rAppend (.ref p) [y] H Q := ⟨p, xs, y, rfl, rfl, h, hz, q⟩
theorem w_setL {n : Nat} (h : H p = some (.lst xs)) (hi : ixN xs.length i = some n) {QH : Hp → Prop} (q : QH (upd H p (.lst (xs.set n v)))) : rSetL (.ref p) (.int i) v H QH := ⟨p, xs, i, n, rfl, rfl, h, hi, q⟩
theorem ix_nat {n m : Nat} (h : m < n) : ixN n (m : Int) = some m := by
  unfold ixN
  rw [if_pos (Int.natCast_nonneg m), if_pos (by omega)]
  rfl
-- statements
theorem w_seq (q : t { D with nx := u D } σ H) : tSeq t u D σ H := q
theorem w_asg {g : TG} (q : te σ H fun x H1 => g x σ H1 D.nx) : tAsg te g D σ H := q
theorem w_name {n : Nat} {QS : L2.St → Hp → Prop} (q : QS (σ.set n (some v)) H) : gName n v σ H QS := q
theorem w_sub {s : TSet} {QS : L2.St → Hp → Prop} (q : ta σ H fun o H1 => tb σ H1 fun i H2 => s o i v H2 fun H3 => QS σ H3) : gSub ta tb s v σ H QS := q
theorem w_ret (q : te σ H D.rt) : tRet te D σ H := q
theorem w_drop (q : te σ H fun _ H1 => D.nx σ H1) : tDrop te D σ H := q
theorem w_if (q : c σ H fun b H1 => if b = true then t D σ H1 else u D σ H1) : tIfS c t u D σ H := q
theorem w_next (q : D.nx σ H) : tNext D σ H := q
theorem w_brk (q : D.bk σ H) : tBreak D σ H := q
theorem w_nx {f : L2.St → Hp → Prop} {rt : VK} {bk ct : L2.St → Hp → Prop} (q : f σ H) : (Ends.mk f rt bk ct).nx σ H := q
theorem w_bk {f : L2.St → Hp → Prop} {rt : VK} {bk ct : L2.St → Hp → Prop} (q : bk σ H) : (Ends.mk f rt bk ct).bk σ H := q
theorem w_rt {f : L2.St → Hp → Prop} {rt : VK} {bk ct : L2.St → Hp → Prop} (q : rt v H) : (Ends.mk f rt bk ct).rt v H := q
theorem w_aug {n : Nat} {g : Int → Int → Int} (hv : σ[n]? = some (some (.int i))) (q : te σ H fun y H1 => ∃ j, y = .int j ∧ D.nx (σ.set n (some (.int (g i j)))) H1) : tAug n te (ipI g) D σ H := by
  refine ⟨.int i, hv, ?_⟩
  have e : (fun y H1 => ipI g (.int i) y H1 fun z H2 => D.nx (σ.set n (some z)) H2) = fun y H1 => ∃ j, y = .int j ∧ D.nx (σ.set n (some (.int (g i j)))) H1 := by
    funext y H1
    refine propext ⟨fun ⟨a, b, h1, h2, h3⟩ => ?_, fun ⟨b, h2, h3⟩ => ⟨i, b, rfl, h2, h3⟩⟩
    cases h1
    exact ⟨b, h2, h3⟩
  rw [e]
  exact q
theorem w_augI {Z : Int → Prop} (q : Z j) : ∃ k, V.int j = .int k ∧ Z k := ⟨j, rfl, q⟩
theorem w_for {wi : TI} {g : TG} (q : wi σ H fun J H1 => ∃ W : Nat → Nat → L2.St → Hp → Prop, (∃ m, W 0 m σ H1) ∧ ∀ i m σ H, W i m σ H → (J.stop i H ∧ D.nx σ H) ∨ (J.go i H ∧ ∃ N : L2.St → Hp → Prop, (∀ σ' H', N σ' H' → ∃ m', m' < m ∧ W (i + 1) m' σ' H') ∧ ∀ v H', J.yld i H v H' → g v σ H' fun σ2 H2 => t { D with nx := N, ct := N, bk := D.nx } σ2 H2)) : tFor wi g t D σ H := q
theorem w_iTup (q : te σ H fun x H1 => ∃ a, x = .ref a ∧ (∃ xs, SqT K H1 a xs) ∧ R (Itt K a) H1) : iTup K te σ H R := q
theorem w_iList (q : te σ H fun x H1 => ∃ a, x = .ref a ∧ (∃ xs, SqL K H1 a xs) ∧ R (Itl K a) H1) : iList K te σ H R := q
theorem w_iR1 (q : tr σ H fun vs H1 => ∃ j : Int, vs = [.int j] ∧ -(2 ^ 62) ≤ j ∧ j < 2 ^ 62 ∧ R (Itr 0 j.toNat) H1) : iRng1 tr σ H R := q
theorem w_iR2 (q : tr σ H fun vs H1 => ∃ i j : Int, vs = [.int i, .int j] ∧ (-(2 ^ 62) ≤ i ∧ i < 2 ^ 62 ∧ -(2 ^ 62) ≤ j ∧ j < 2 ^ 62) ∧ R (Itr i (j - i).toNat) H1) : iRng2 tr σ H R := q
theorem w_iEn (q : te σ H fun v H1 => ∃ (a : Addr) (xs : List V), v = .ref a ∧ SqT K H1 a xs ∧ R (ItE K a xs.length) H1) : iEn K te σ H R := q
theorem w_iRev (q : te σ H fun v H1 => ∃ (a : Addr) (xs : List V), v = .ref a ∧ ((SqL K H1 a xs ∧ R (Itv K a xs.length) H1) ∨ (SqT K H1 a xs ∧ R (ItvT K a xs.length) H1))) : iRevA K te σ H R := q
theorem w_lc {wi : TI} {g : TG} {ns : List Nat} (q : wi σ H fun J H1 => ∀ d, H1 d = none →
    ∃ W : Nat → Nat → Hp → Prop, (∃ m, W 0 m (upd H1 d (.lst []))) ∧ ∀ i m H, W i m H → (J.stop i H ∧ Q (.ref d) H) ∨
      (J.go i H ∧ ∃ Nx : Hp → Prop, (∀ H', Nx H' → ∃ m', m' < m ∧ W (i + 1) m' H') ∧ ∀ x H', J.yld i H x H' →
        g x (wipe σ ns) H' fun σ2 H2 => wipe σ2 ns = wipe σ ns ∧ c σ2 H2 fun b H3 => if b = true then te σ2 H3 fun y H4 => ∃ l, H4 d = some (.lst l) ∧ l.length < sizeLine ∧ Nx (upd H4 d (.lst (l ++ [y]))) else Nx H3)) : tLc wi g c te ns σ H Q := q
theorem w_yes (q : QB true H) : tYes σ H QB := q
theorem w_trB {b : Bool} {Z : Bool → Prop} (q : Z b) : ∃ k, TruV K (.bl b) H k ∧ Z k := ⟨b, rfl, q⟩
theorem w_trL {Z : Bool → Prop} (h : H p = some (.lst xs)) (q : Z (!xs.isEmpty)) : ∃ k, TruV K (.ref p) H k ∧ Z k := ⟨_, .inl ⟨xs, SqL.of h, rfl⟩, q⟩
theorem w_trT {Z : Bool → Prop} (h : H p = some (.tup xs)) (q : Z (!xs.isEmpty)) : ∃ k, TruV K (.ref p) H k ∧ Z k := ⟨_, .inr (.inl ⟨xs, SqT.of h, rfl⟩), q⟩
theorem w_sl {r : V → Option Int → Option Int → Hp → VK → Prop} {tl th : TO} (q : te σ H fun x H1 => tl σ H1 fun l H2 => th σ H2 fun u H3 => r x l u H3 Q) : tSl r te tl th σ H Q := q
theorem w_part {QO : Option Int → Hp → Prop} (q : te σ H fun x H1 => ∃ i, x = .int i ∧ QO (some i) H1) : tPart te σ H QO := q
theorem w_int1 {Z : Int → Prop} (q : Z i) : ∃ k, V.int i = .int k ∧ Z k := ⟨i, rfl, q⟩
theorem w_nopart {QO : Option Int → Hp → Prop} (q : QO none H) : tNoPart σ H QO := q
theorem w_sl1 (h : H p = some (.tup (x :: xs))) (q : ∀ a, H a = none → Q (.ref a) (upd H a (.tup xs))) : rSlT K (.ref p) (some 1) none H Q := by
  have e : HT.sIx (x :: xs).length 0 (some 1) = 1 := by
    have := HT.sIx_nat (x :: xs).length 0 1
    rw [List.length_cons] at this ⊢
    rw [show (1 : Int) = ((1 : Nat) : Int) from rfl, this]
    omega
  refine ⟨p, x :: xs, rfl, SqT.of h, fun z => ?_, fun a ha => ?_⟩
  · rw [e] at z
    exact absurd z.1 (by decide)
  · have c : cutV (x :: xs) (some 1) none = xs := by
      unfold cutV
      rw [e, HT.sIx_none]
      show (xs.take ((x :: xs).length - 1)) = xs
      rw [List.length_cons, Nat.add_sub_cancel]
      exact List.take_length
    rw [c]
    exact q a ha
theorem w_neS {a b : Str} (q : Q (.bl (!decide (V.str a = V.str b))) H) : rNe (.str a) (.str b) H Q := ⟨rfl, q⟩
theorem w_reprB {b : Bool} (q : Q (.str (if b then "True" else "False")) H) : jReprB [.bl b] H Q := ⟨b, rfl, q⟩
theorem w_reprI (h : i.natAbs.log2 < 1920) (q : Q (.str (toString i)) H) : jReprI [.int i] H Q := ⟨i, rfl, h, q⟩
theorem w_catT {a b : Addr} {ys : List V} (h : H a = some (.tup xs)) (k : H b = some (.tup ys)) (ne : xs ≠ []) (hz : xs.length + ys.length ≤ sizeLine) (q0 : ys = [] → Q (.ref a) H) (q : ys ≠ [] → ∀ p, H p = none → Q (.ref p) (upd H p (.tup (xs ++ ys)))) : rCatT K (.ref a) (.ref b) H Q :=
  ⟨a, b, xs, ys, rfl, rfl, SqT.of h, SqT.of k, ne, hz, q0, q⟩
theorem w_cat {a b : Addr} {ys : List V} (h : H a = some (.lst xs)) (k : H b = some (.lst ys)) (hz : xs.length + ys.length ≤ sizeLine) (q : ∀ p, H p = none → Q (.ref p) (upd H p (.lst (xs ++ ys)))) : rCat (.ref a) (.ref b) H Q :=
  ⟨a, b, xs, ys, rfl, rfl, h, k, hz, q⟩
theorem w_cutS {Mid : L2.St → Hp → Prop} (q : t { D with nx := Mid } σ H) (k : ∀ σ' H', Mid σ' H' → u D σ' H') : Evl.tCut t u D σ H := ⟨Mid, q, k⟩
end
theorem lenOk {α : Type} {n : Nat} {xs : List α} (h : xs.length = n) (hn : n ≤ 1000 := by decide) : xs.length ≤ sizeLine := by
  rw [h]
  exact Nat.le_trans hn (by decide)

/-! ### values, heaps -/
abbrev nV (n : Nat) : V := .int (n : Int)
def oV : Option Int → V
  | none => .non
  | some i => .int i
abbrev tupN (l : List Nat) : HO := .tup (l.map nV)
abbrev lstO (T : List (Option Int)) : HO := .lst (T.map oV)
abbrev tupO (T : List (Option Int)) : HO := .tup (T.map oV)
theorem oV_get {T : List (Option Int)} {s : Nat} (h : s < T.length) : (T.map oV)[s]? = some (oV (tg T s)) := by
  rw [List.getElem?_map]
  unfold tg
  rw [List.getElem?_eq_getElem h]
  rfl
theorem nV_get {l : List Nat} {i s : Nat} (h : l[i]? = some s) : (l.map nV)[i]? = some (nV s) := by
  rw [List.getElem?_map, h]
  rfl
/-- the tuples stay -/
def TE (H H' : Hp) : Prop := ∀ b xs, H b = some (.tup xs) → H' b = some (.tup xs)
abbrev Ex : Hp → Hp → Prop := Evl.Ex
theorem Ex.te {H H' : Hp} (h : Ex H H') : TE H H' := fun b xs e => h b _ e
theorem TE.refl (H : Hp) : TE H H := fun _ _ h => h
theorem TE.trans {A B C : Hp} (h : TE A B) (k : TE B C) : TE A C := fun b xs e => k b xs (h b xs e)
theorem TE.new {H : Hp} {p : Addr} {o : HO} (h : H p = none) : TE H (upd H p o) := Ex.te (Evl.Ex.new h)
theorem TE.set {H : Hp} {p : Addr} {xs : List V} {o : HO} (h : H p = some (.lst xs)) : TE H (upd H p o) := fun b ys e => by
  rw [upd_ne (fun z => by rw [z, h] at e; cases e)]
  exact e
/-- all stands but the list at t, the tape -/
def Go (t : Addr) (H H' : Hp) : Prop :=
  (∀ b o, H b = some o → (b ≠ t ∨ ∀ xs, o ≠ .lst xs) → H' b = some o) ∧
  (∀ a p n r, 0 ≤ p → H t = some (.lst [.ref a, .int p, .int n, .int r]) → ∃ p' n' r', 0 ≤ p' ∧ H' t = some (.lst [.ref a, .int p', .int n', .int r']))
/-- the tape -/
def Tp (t : Addr) (H : Hp) : Prop := ∃ (a : Addr) (ns : List Int) (p n r : Int), a ≠ t ∧ 0 ≤ p ∧ H t = some (.lst [.ref a, .int p, .int n, .int r]) ∧ H a = some (.lst (ns.map V.int))
theorem Go.refl (t : Addr) (H : Hp) : Go t H H := ⟨fun _ _ h _ => h, fun a p n r h0 h => ⟨p, n, r, h0, h⟩⟩
theorem Go.trans {t : Addr} {A B C : Hp} (h : Go t A B) (k : Go t B C) : Go t A C :=
  ⟨fun b o e d => k.1 b o (h.1 b o e d) d, fun a p n r h0 e => by
    obtain ⟨p1, n1, r1, h1, e1⟩ := h.2 a p n r h0 e
    exact k.2 a p1 n1 r1 h1 e1⟩
theorem Go.tp {t : Addr} {H H' : Hp} (h : Go t H H') (k : Tp t H) : Tp t H' := by
  obtain ⟨a, ns, p, n, r, ne, h0, e, ea⟩ := k
  obtain ⟨p1, n1, r1, h1, e1⟩ := h.2 a p n r h0 e
  exact ⟨a, ns, p1, n1, r1, ne, h1, e1, h.1 a _ ea (.inl ne)⟩
theorem Go.te {t : Addr} {H H' : Hp} (h : Go t H H') : TE H H' := fun b xs e => h.1 b _ e (.inr fun ys z => by cases z)
theorem Go.at_ {t : Addr} {H H' : Hp} (h : Go t H H') {b : Addr} {o : HO} (e : H b = some o) (ne : b ≠ t) : H' b = some o := h.1 b o e (.inl ne)
theorem Ex.go {t : Addr} {H H' : Hp} (h : Ex H H') : Go t H H' := ⟨fun b o e _ => h b o e, fun a p n r h0 e => ⟨p, n, r, h0, h t _ e⟩⟩
theorem Go.new {t : Addr} {H : Hp} {p : Addr} {o : HO} (h : H p = none) : Go t H (upd H p o) := Ex.go (Evl.Ex.new h)
/-- an object that was not there may change -/
theorem Go.mut {t : Addr} {A B : Hp} (h : Go t A B) {l : Addr} {o : HO} (hl : A l = none) : Go t A (upd B l o) := by
  refine ⟨fun b u e d => ?_, fun a p n r h0 e => ?_⟩
  · rw [upd_ne (ne_of_none e hl)]
    exact h.1 b u e d
  · obtain ⟨p1, n1, r1, h1, e1⟩ := h.2 a p n r h0 e
    exact ⟨p1, n1, r1, h1, by rw [upd_ne (ne_of_none e hl)]; exact e1⟩
theorem Go.back {t : Addr} {A B : Hp} (h : Go t A B) (k : Tp t A) {l : Addr} (hl : B l = none) : A l = none := by
  cases q : A l with
  | none => rfl
  | some o =>
    by_cases e : l = t
    · obtain ⟨a, ns, p, n, r, ne, h0, et, _⟩ := h.tp k
      rw [e, et] at hl
      cases hl
    · rw [h.1 l o q (.inl e)] at hl
      cases hl
theorem Ex.back {A B : Hp} (h : Ex A B) {l : Addr} (hl : B l = none) : A l = none := Evl.fresh_back h hl
theorem Tp.ne {t : Addr} {H : Hp} (k : Tp t H) {l : Addr} (hl : H l = none) : l ≠ t := fun e => by
  obtain ⟨a, ns, p, n, r, _, _, et, _⟩ := k
  rw [e, et] at hl
  cases hl
theorem Ex.tp {t : Addr} {H H' : Hp} (h : Ex H H') (k : Tp t H) : Tp t H' := (Ex.go h : Go t H H').tp k

/-! ### variants and families in a heap -/
def VrAt (H : Hp) (x : V) (v : Vr) : Prop := ∃ a b, x = .ref a ∧ H a = some (.tup [nV v.plug, .ref b, oV v.price]) ∧ H b = some (tupN v.slots)
def FmAt (H : Hp) (f : Addr) (n : Nat) (F : List Vr) : Prop := ∃ (r : V) (va : Addr) (xs : List V), H f = some (.tup [nV n, r, .ref va]) ∧ H va = some (.tup xs) ∧ Paired (VrAt H) xs F
structure VrOk (n : Nat) (v : Vr) : Prop where
  plug : v.plug < n
  few : v.slots.length ≤ 3
  slots : ∀ s ∈ v.slots, s < n
structure FmOk (n : Nat) (F : List Vr) : Prop where
  pos : 1 ≤ n
  top : n ≤ 4
  few : F.length ≤ 12
  all : ∀ v ∈ F, VrOk n v
def Bounded (F : List Vr) : Prop := ∀ v ∈ F, ∀ p, v.price = some p → -1000000000 ≤ p ∧ p ≤ 1000000000
theorem VrAt.mono {H H' : Hp} (h : TE H H') {x : V} {v : Vr} (k : VrAt H x v) : VrAt H' x v := by
  obtain ⟨a, b, e, h1, h2⟩ := k
  exact ⟨a, b, e, h a _ h1, h b _ h2⟩
theorem FmAt.mono {H H' : Hp} (h : TE H H') {f : Addr} {n : Nat} {F : List Vr} (k : FmAt H f n F) : FmAt H' f n F := by
  obtain ⟨r, va, xs, h1, h2, h3⟩ := k
  exact ⟨r, va, xs, h f _ h1, h va _ h2, Paired.mapP h3 fun x v q => q.mono h⟩
theorem pair_get {α β : Type} {R : α → β → Prop} : ∀ {xs : List α} {ys : List β} {i : Nat} {x : α}, Paired R xs ys → xs[i]? = some x → ∃ y, ys[i]? = some y ∧ R x y
  | _, _, i, x, .nil, e => by simp at e
  | _, _, 0, x, .cons r _, e => by
    simp at e
    subst e
    exact ⟨_, rfl, r⟩
  | _, _, i + 1, x, .cons _ t, e => by
    obtain ⟨y, h1, h2⟩ := pair_get (i := i) (x := x) t (by simpa using e)
    exact ⟨y, by simpa using h1, h2⟩
theorem pair_app {α β : Type} {R : α → β → Prop} : ∀ {xs xs2 : List α} {ys ys2 : List β}, Paired R xs ys → Paired R xs2 ys2 → Paired R (xs ++ xs2) (ys ++ ys2)
  | _, _, _, _, .nil, s => s
  | _, _, _, _, .cons r t, s => .cons r (pair_app t s)
theorem pair_take {α β : Type} {R : α → β → Prop} : ∀ {xs : List α} {ys : List β} (n : Nat), Paired R xs ys → Paired R (xs.take n) (ys.take n)
  | _, _, 0, _ => .nil
  | _, _, _ + 1, .nil => .nil
  | _, _, n + 1, .cons r t => .cons r (pair_take n t)
theorem pair_drop {α β : Type} {R : α → β → Prop} : ∀ {xs : List α} {ys : List β} (n : Nat), Paired R xs ys → Paired R (xs.drop n) (ys.drop n)
  | _, _, 0, r => r
  | _, _, _ + 1, .nil => .nil
  | _, _, n + 1, .cons _ t => pair_drop n t
theorem pair_len {α β : Type} {R : α → β → Prop} {xs : List α} {ys : List β} (h : Paired R xs ys) : xs.length = ys.length := Paired.length h
theorem pair_at {α β : Type} {R : α → β → Prop} {xs : List α} {ys : List β} (h : Paired R xs ys) {i : Nat} {y : β} (e : ys[i]? = some y) : ∃ x, xs[i]? = some x ∧ R x y := by
  have hl := pair_len h
  have hi := (List.getElem?_eq_some_iff.mp e).1
  have hx : xs[i]? = some xs[i] := List.getElem?_eq_getElem (by omega)
  obtain ⟨y', e', r⟩ := pair_get h hx
  rw [e] at e'
  cases e'
  exact ⟨_, hx, r⟩
end K39
/-! K39: the defs' scopes, the bounds, the promises. -/
namespace K39
open PySem PySem.Spec PyProof.Rows L2 RT SkE
/-! price_of: slots 0 family, 1 tree, 2 number -/
abbrev s_price_of : Stmt := topS 1
theorem sc_price_of : FnScope ["family", "tree", "number"] ["family", "tree"] (defScope s_price_of) := ⟨rfl, rfl, rfl, by decide +kernel, rfl, by decide +kernel, by decide +kernel⟩
/-! cost_of: slots 0 family, 1 table, 2 number, 3 _, 4 slots, 5 price, 6 state -/
abbrev s_cost_of : Stmt := topS 3
theorem sc_cost_of : FnScope ["family", "table", "number", "_", "slots", "price", "state"] ["family", "table", "number"] (defScope s_cost_of) := ⟨rfl, rfl, rfl, by decide +kernel, rfl, by decide +kernel, by decide +kernel⟩
/-! is_floor: slots 0 family, 1 table, 2 number, 3 variant, 4 cost, 5 worth -/
abbrev s_is_floor : Stmt := topS 4
theorem sc_is_floor : FnScope ["family", "table", "number", "variant", "cost", "worth"] ["family", "table"] (defScope s_is_floor) := ⟨rfl, rfl, rfl, by decide +kernel, rfl, by decide +kernel, by decide +kernel⟩
/-! is_ceiling: slots 0 family, 1 table, 2 number, 3 variant, 4 cost, 5 worth -/
abbrev s_is_ceiling : Stmt := topS 5
theorem sc_is_ceiling : FnScope ["family", "table", "number", "variant", "cost", "worth"] ["family", "table"] (defScope s_is_ceiling) := ⟨rfl, rfl, rfl, by decide +kernel, rfl, by decide +kernel, by decide +kernel⟩
/-! tape: slots 0 script, 1 total, 2 cell -/
abbrev s_tape : Stmt := topS 7
theorem sc_tape : FnScope ["_law_script", "_law_total", "_law_cell"] ["_law_script"] (defScope s_tape) := ⟨rfl, rfl, rfl, by decide +kernel, rfl, by decide +kernel, by decide +kernel⟩
/-! draw: slots 0 tape_here, 1 menu, 2 place, 3 number -/
abbrev s_draw : Stmt := topS 8
theorem sc_draw : FnScope ["_law_tape_here", "_law_menu", "_law_place", "_law_number"] ["_law_tape_here", "_law_menu"] (defScope s_draw) := ⟨rfl, rfl, rfl, by decide +kernel, rfl, by decide +kernel, by decide +kernel⟩
/-! price: slots 0 tape_here, 1 mode, 2 low, 3 price_here -/
abbrev s_price : Stmt := topS 9
theorem sc_price : FnScope ["_law_tape_here", "_law_mode", "_law_low", "_law_price_here"] ["_law_tape_here", "_law_mode", "_law_low"] (defScope s_price) := ⟨rfl, rfl, rfl, by decide +kernel, rfl, by decide +kernel, by decide +kernel⟩
/-! family: slots 0 tape_here, 1 states, 2 variants, 3 low, 4 count, 5 shape, 6 mode, 7 rows, 8 k, 9 plug, 10 slots, 11 j, 12 goal, 13 row, 14 state, 15 roots -/
abbrev s_family : Stmt := topS 10
theorem sc_family : FnScope ["_law_tape_here", "_law_states", "_law_variants", "_law_low", "_law_count", "_law_shape", "_law_mode", "_law_rows", "_law_k", "_law_plug", "_law_slots", "_law_j", "_law_goal", "_law_row", "_law_state", "_law_roots"] ["_law_tape_here", "_law_states", "_law_variants", "_law_low"] (defScope s_family) := ⟨rfl, rfl, rfl, by decide +kernel, rfl, by decide +kernel, by decide +kernel⟩
/-! size: slots 0 variant, 1 sizes_here, 2 size_here, 3 state -/
abbrev s_size : Stmt := topS 11
theorem sc_size : FnScope ["_law_variant", "_law_sizes_here", "_law_size_here", "_law_state"] ["_law_variant", "_law_sizes_here"] (defScope s_size) := ⟨rfl, rfl, rfl, by decide +kernel, rfl, by decide +kernel, by decide +kernel⟩
/-! sizes: slots 0 family_here, 1 sizes_here, 2 turn, 3 changed, 4 variant, 5 size_here, 6 state -/
abbrev s_sizes : Stmt := topS 12
theorem sc_sizes : FnScope ["_law_family_here", "_law_sizes_here", "_law_turn", "_law_changed", "_law_variant", "_law_size_here", "_law_state"] ["_law_family_here"] (defScope s_sizes) := ⟨rfl, rfl, rfl, by decide +kernel, rfl, by decide +kernel, by decide +kernel⟩
/-! priced: slots 0 family_here, 1 tree_here, 2 number -/
abbrev s_priced : Stmt := topS 13
theorem sc_priced : FnScope ["_law_family_here", "_law_tree_here", "_law_number"] ["_law_family_here", "_law_tree_here"] (defScope s_priced) := ⟨rfl, rfl, rfl, by decide +kernel, rfl, by decide +kernel, by decide +kernel⟩
/-! tree: slots 0 tape_here, 1 family_here, 2 sizes_here, 3 state, 4 room, 5 stack, 6 need, 7 tree_here, 8 turn, 9 goal, 10 fitting, 11 number, 12 size_here, 13 slot -/
abbrev s_tree : Stmt := topS 14
theorem sc_tree : FnScope ["_law_tape_here", "_law_family_here", "_law_sizes_here", "_law_state", "_law_room", "_law_stack", "_law_need", "_law_tree_here", "_law_turn", "_law_goal", "_law_fitting", "_law_number", "_law_size_here", "_law_slot"] ["_law_tape_here", "_law_family_here", "_law_sizes_here", "_law_state", "_law_room"] (defScope s_tree) := ⟨rfl, rfl, rfl, by decide +kernel, rfl, by decide +kernel, by decide +kernel⟩
/-! ways: slots 0 counts_here, 1 slots, 2 parts, 3 total, 4 size_here, 5 number -/
abbrev s_ways : Stmt := topS 15
theorem sc_ways : FnScope ["_law_counts_here", "_law_slots", "_law_parts", "_law_total", "_law_size_here", "_law_number"] ["_law_counts_here", "_law_slots", "_law_parts"] (defScope s_ways) := ⟨rfl, rfl, rfl, by decide +kernel, rfl, by decide +kernel, by decide +kernel⟩
/-! counts: slots 0 family_here, 1 top, 2 counts_here, 3 size_here, 4 row, 5 variant, 6 state -/
abbrev s_counts : Stmt := topS 16
theorem sc_counts : FnScope ["_law_family_here", "_law_top", "_law_counts_here", "_law_size_here", "_law_row", "_law_variant", "_law_state"] ["_law_family_here", "_law_top"] (defScope s_counts) := ⟨rfl, rfl, rfl, by decide +kernel, rfl, by decide +kernel, by decide +kernel⟩
/-! reach: slots 0 counts_here, 1 limit, 2 total, 3 size_here -/
abbrev s_reach : Stmt := topS 17
theorem sc_reach : FnScope ["_law_counts_here", "_law_limit", "_law_total", "_law_size_here"] ["_law_counts_here", "_law_limit"] (defScope s_reach) := ⟨rfl, rfl, rfl, by decide +kernel, rfl, by decide +kernel, by decide +kernel⟩
/-! fillings: slots 0 rows, 1 slots, 2 parts, 3 found, 4 size_here, 5 firsts, 6 rest, 7 first -/
abbrev s_fillings : Stmt := topS 18
theorem sc_fillings : FnScope ["_law_rows", "_law_slots", "_law_parts", "_law_found", "_law_size_here", "_law_firsts", "_law_rest", "_law_first"] ["_law_rows", "_law_slots", "_law_parts"] (defScope s_fillings) := ⟨rfl, rfl, rfl, by decide +kernel, rfl, by decide +kernel, by decide +kernel⟩
/-! trees: slots 0 family_here, 1 top, 2 rows, 3 size_here, 4 row, 5 number, 6 variant, 7 filling, 8 state -/
abbrev s_trees : Stmt := topS 19
theorem sc_trees : FnScope ["_law_family_here", "_law_top", "_law_rows", "_law_size_here", "_law_row", "_law_number", "_law_variant", "_law_filling", "_law_state"] ["_law_family_here", "_law_top"] (defScope s_trees) := ⟨rfl, rfl, rfl, by decide +kernel, rfl, by decide +kernel, by decide +kernel⟩
/-! some_tree: slots 0 tape_here, 1 family_here, 2 room, 3 sizes_here, 4 state, 5 small -/
abbrev s_some_tree : Stmt := topS 20
theorem sc_some_tree : FnScope ["_law_tape_here", "_law_family_here", "_law_room", "_law_sizes_here", "_law_state", "_law_small"] ["_law_tape_here", "_law_family_here", "_law_room"] (defScope s_some_tree) := ⟨rfl, rfl, rfl, by decide +kernel, rfl, by decide +kernel, by decide +kernel⟩
/-! cost: slots 0 variant, 1 table, 2 cost_here, 3 state -/
abbrev s_cost : Stmt := topS 21
theorem sc_cost : FnScope ["_law_variant", "_law_table", "_law_cost_here", "_law_state"] ["_law_variant", "_law_table"] (defScope s_cost) := ⟨rfl, rfl, rfl, by decide +kernel, rfl, by decide +kernel, by decide +kernel⟩
/-! judged: slots 0 family_here, 1 table, 2 sign, 3 variant, 4 cost_here -/
abbrev s_judged : Stmt := topS 22
theorem sc_judged : FnScope ["_law_family_here", "_law_table", "_law_sign", "_law_variant", "_law_cost_here"] ["_law_family_here", "_law_table", "_law_sign"] (defScope s_judged) := ⟨rfl, rfl, rfl, by decide +kernel, rfl, by decide +kernel, by decide +kernel⟩
/-! extreme: slots 0 family_here, 1 sign, 2 table, 3 turn, 4 changed, 5 variant, 6 cost_here, 7 state -/
abbrev s_extreme : Stmt := topS 23
theorem sc_extreme : FnScope ["_law_family_here", "_law_sign", "_law_table", "_law_turn", "_law_changed", "_law_variant", "_law_cost_here", "_law_state"] ["_law_family_here", "_law_sign"] (defScope s_extreme) := ⟨rfl, rfl, rfl, by decide +kernel, rfl, by decide +kernel, by decide +kernel⟩
/-! moved: slots 0 tape_here, 1 family_here, 2 sign, 3 rows, 4 share, 5 variant, 6 price_here, 7 change -/
abbrev s_moved : Stmt := topS 24
theorem sc_moved : FnScope ["_law_tape_here", "_law_family_here", "_law_sign", "_law_rows", "_law_share", "_law_variant", "_law_price_here", "_law_change"] ["_law_tape_here", "_law_family_here", "_law_sign"] (defScope s_moved) := ⟨rfl, rfl, rfl, by decide +kernel, rfl, by decide +kernel, by decide +kernel⟩
/-! price_table: slots 0 tape_here, 1 family_here, 2 sign, 3 choice, 4 top, 5 factor, 6 table, 7 state, 8 price_here, 9 place -/
abbrev s_price_table : Stmt := topS 25
theorem sc_price_table : FnScope ["_law_tape_here", "_law_family_here", "_law_sign", "_law_choice", "_law_top", "_law_factor", "_law_table", "_law_state", "_law_price_here", "_law_place"] ["_law_tape_here", "_law_family_here", "_law_sign"] (defScope s_price_table) := ⟨rfl, rfl, rfl, by decide +kernel, rfl, by decide +kernel, by decide +kernel⟩
/-! law: slots 0 script, 1 tape_here, 2 family_here, 3 pairs, 4 k, 5 pair, 6 row, 7 state, 8 sign, 9 table, 10 taken, 11 told, 12 tree_here -/
abbrev s_law : Stmt := topS 26
theorem sc_law : FnScope ["_law_script", "_law_tape_here", "_law_family_here", "_law_pairs", "_law_k", "_law_pair", "_law_row", "_law_state", "_law_sign", "_law_table", "_law_taken", "_law_told", "_law_tree_here"] ["_law_script"] (defScope s_law) := ⟨rfl, rfl, rfl, by decide +kernel, rfl, by decide +kernel, by decide +kernel⟩

/-! ### how many trees and fillings there are at most -/
def tabR : List Nat := [0, 12, 144, 1728, 41472, 746496]
def bR (k : Nat) : Nat := tabR.getD k 0
def bW : Nat → Nat → Nat
  | 0, p => if p = 0 then 1 else 0
  | n + 1, p => ((List.range p).map fun s => bR (s + 1) * bW n (p - (s + 1))).sum
/-- with one part: the sum up to i -/
def bS (n p i : Nat) : Nat := ((List.range i).map fun s => bR (s + 1) * bW n (p - (s + 1))).sum
theorem bS_succ (n p i : Nat) : bS n p (i + 1) = bS n p i + bR (i + 1) * bW n (p - (i + 1)) := by
  unfold bS
  rw [List.range_succ, List.map_append, List.sum_append, List.map_singleton, List.sum_singleton]
theorem bS_mono (n p : Nat) : ∀ {i j : Nat}, i ≤ j → bS n p i ≤ bS n p j
  | i, 0, h => by
    obtain rfl : i = 0 := by omega
    exact Nat.le_refl _
  | i, j + 1, h => by
    by_cases e : i = j + 1
    · rw [e]
      exact Nat.le_refl _
    · have q := bS_mono n p (show i ≤ j by omega)
      rw [bS_succ]
      omega
def bM (p : Nat) : Nat := bR (p + 1) / 12
theorem bM_12 : ∀ p ≤ 4, 12 * bM p = bR (p + 1) := by decide +kernel
theorem bW_bM : ∀ n ≤ 3, ∀ p ≤ 4, bW n p ≤ bM p := by decide +kernel
theorem bW_one : ∀ p ≤ 4, bW 1 p = bR p := by decide +kernel
theorem bS_all (n p : Nat) : bS n p p = bW (n + 1) p := rfl
theorem bW_all : ∀ n ≤ 3, ∀ p ≤ 4, 12 * bW n p ≤ bR (p + 1) := by decide +kernel
theorem bW_top {n p : Nat} (hn : n ≤ 3) (hp : p ≤ 4) : 12 * bW n p ≤ bR (p + 1) := bW_all n hn p hp
theorem bR_small : ∀ k ≤ 5, bR k ≤ 746496 := by decide +kernel
theorem bW_small : ∀ n ≤ 3, ∀ p ≤ 4, bW n p ≤ 62208 := by decide +kernel

/-! ### what stands in the lists of numbers and trees -/
def CtAt (H : Hp) (c : Addr) (n L : Nat) : Prop := ∃ rs : List Addr, H c = some (.lst (rs.map V.ref)) ∧ rs.length = L ∧
  ∀ (k : Nat) (r : Addr), rs[k]? = some r → ∃ row : List Int, H r = some (.lst (row.map V.int)) ∧ row.length = n ∧ ∀ x ∈ row, 0 ≤ x ∧ x ≤ (bR k : Int)
def ItAt (H : Hp) (F : List Vr) (ss : List Nat) (k : Nat) (x : V) : Prop := ∃ (a q : Addr) (pr : Int) (T : List Nat), x = .ref a ∧ H a = some (.tup [.int pr, .ref q]) ∧ H q = some (tupN T) ∧ Forest F ss T ∧ T.length = k
def ClAt (H : Hp) (F : List Vr) (s k B : Nat) (a : Addr) : Prop := ∃ xs : List V, H a = some (.lst xs) ∧ xs.length ≤ B ∧ ∀ x ∈ xs, ItAt H F [s] k x
def RoAt (H : Hp) (F : List Vr) (r : Addr) (n k B : Nat) : Prop := ∃ cs : List Addr, H r = some (.lst (cs.map V.ref)) ∧ cs.length = n ∧ ∀ (s : Nat) (a : Addr), cs[s]? = some a → ClAt H F s k B a
def RwAt (H : Hp) (F : List Vr) (c : Addr) (n L : Nat) : Prop := ∃ rs : List Addr, H c = some (.lst (rs.map V.ref)) ∧ rs.length = L ∧ ∀ (k : Nat) (r : Addr), rs[k]? = some r → RoAt H F r n k (bR k)
theorem CtAt.mono {H H' : Hp} (h : Ex H H') {c : Addr} {n L : Nat} (k : CtAt H c n L) : CtAt H' c n L := by
  obtain ⟨rs, h1, h2, h3⟩ := k
  refine ⟨rs, h c _ h1, h2, fun k r e => ?_⟩
  obtain ⟨row, e1, e2, e3⟩ := h3 k r e
  exact ⟨row, h r _ e1, e2, e3⟩
theorem ItAt.mono {H H' : Hp} (h : TE H H') {F : List Vr} {ss : List Nat} {k : Nat} {x : V} (q : ItAt H F ss k x) : ItAt H' F ss k x := by
  obtain ⟨a, b, pr, T, e, h1, h2, h3⟩ := q
  exact ⟨a, b, pr, T, e, h a _ h1, h b _ h2, h3⟩
theorem ClAt.mono {H H' : Hp} (h : Ex H H') {F : List Vr} {s k B : Nat} {a : Addr} (q : ClAt H F s k B a) : ClAt H' F s k B a := by
  obtain ⟨xs, h1, h2, h3⟩ := q
  exact ⟨xs, h a _ h1, h2, fun x hx => (h3 x hx).mono (Ex.te h)⟩
theorem RoAt.mono {H H' : Hp} (h : Ex H H') {F : List Vr} {r : Addr} {n k B : Nat} (q : RoAt H F r n k B) : RoAt H' F r n k B := by
  obtain ⟨cs, h1, h2, h3⟩ := q
  exact ⟨cs, h r _ h1, h2, fun s a e => (h3 s a e).mono h⟩
theorem RwAt.mono {H H' : Hp} (h : Ex H H') {F : List Vr} {c : Addr} {n L : Nat} (q : RwAt H F c n L) : RwAt H' F c n L := by
  obtain ⟨rs, h1, h2, h3⟩ := q
  exact ⟨rs, h c _ h1, h2, fun k r e => (h3 k r e).mono h⟩

/-- by the number of slots: nothing can be asked of nothing -/
def never : Sp := fun _ _ _ _ => False
/-! ### the promises -/
def spTape (K : PySem.W.Frag) : Sp := fun vs H Q _ => ∃ (a : Addr) (ns : List Int), vs = [.ref a] ∧ SqL K H a (ns.map V.int) ∧ ns.length ≤ 63 ∧ ∀ t H', Ex H H' → H t = none → Tp t H' → Q (.ref t) H'
def spDraw : Sp := fun vs H Q _ => ∃ (t : Addr) (m : Int), vs = [.ref t, .int m] ∧ Tp t H ∧ 1 ≤ m ∧ m < 1073741824 ∧ ∀ r H', Go t H H' → 0 ≤ r → r < m → Q (.int r) H'
def spPrice : Sp := fun vs H Q _ => ∃ (t : Addr) (m l : Int), vs = [.ref t, .int m, .int l] ∧ Tp t H ∧ 0 ≤ m ∧ m < 4 ∧ ∀ p H', Go t H H' → (∀ i, p = some i → -1000000000 ≤ i ∧ i ≤ 1000000000) → Q (oV p) H'
def spFamily : Sp := fun vs H Q _ => ∃ (t : Addr) (l : Int), vs = [.ref t, .int 4, .int 8, .int l] ∧ Tp t H ∧ ∀ f n F H', Go t H H' → FmAt H' f n F → FmOk n F → Bounded F → Q (.ref f) H'
def spSize : Sp := fun vs H Q _ => ∃ (x : V) (l : Addr) (v : Vr) (S : List (Option Int)), vs = [x, .ref l] ∧ VrAt H x v ∧ H l = some (lstO S) ∧ (∀ s ∈ v.slots, s < S.length) ∧ Q (oV (sizeOf S v)) H
def spSizes : Sp := fun vs H Q _ => ∃ (f : Addr) (n : Nat) (F : List Vr), vs = [.ref f] ∧ FmAt H f n F ∧ FmOk n F ∧ ∀ l S H', Ex H H' → H l = none → H' l = some (lstO S) → SizesOk n F S → Q (.ref l) H'
def spPriceOf : Sp := fun vs H Q _ => ∃ (f q : Addr) (n : Nat) (F : List Vr) (T : List Nat), vs = [.ref f, .ref q] ∧ FmAt H f n F ∧ H q = some (tupN T) ∧ (∀ m ∈ T, ∃ v p, F[m]? = some v ∧ v.price = some p) ∧ T.length ≤ 1000 ∧ ∀ H', Ex H H' → Q (.int (psum F T)) H'
def spTree : Sp := fun vs H Q _ => ∃ (t f l : Addr) (n : Nat) (F : List Vr) (S : List (Option Int)) (s : Nat) (room : Int), vs = [.ref t, .ref f, .ref l, nV s, .int room] ∧ Tp t H ∧ l ≠ t ∧ FmAt H f n F ∧ FmOk n F ∧ H l = some (lstO S) ∧ SizesOk n F S ∧
  (∃ m, tg S s = some m ∧ m ≤ 100) ∧ 0 ≤ room ∧ room ≤ 40 ∧ ∀ q T H', Go t H H' → H' q = some (tupN T) → Forest F [s] T → T.length ≤ 100 → Q (.ref q) H'
def spWays (d : Nat) : Sp := fun vs H Q _ => ∃ (c b : Addr) (n L : Nat) (slots : List Nat) (p : Nat), vs = [.ref c, .ref b, nV p] ∧ CtAt H c n L ∧ H b = some (tupN slots) ∧ slots.length ≤ d ∧ slots.length ≤ 3 ∧ (∀ s ∈ slots, s < n) ∧ p < L ∧ L ≤ 5 ∧
  ∀ (m : Int) H', Ex H H' → 0 ≤ m → m ≤ (bW slots.length p : Int) → Q (.int m) H'
def spCounts : Sp := fun vs H Q _ => ∃ (f : Addr) (n : Nat) (F : List Vr), vs = [.ref f, .int 5] ∧ FmAt H f n F ∧ FmOk n F ∧ ∀ c H', Ex H H' → CtAt H' c n 6 → Q (.ref c) H'
def spReach : Sp := fun vs H Q _ => ∃ (c : Addr) (n : Nat), vs = [.ref c, .int 60] ∧ CtAt H c n 6 ∧ ∀ (r : Nat) H', Ex H H' → r ≤ 5 → Q (nV r) H'
def spFillings (d : Nat) : Sp := fun vs H Q _ => ∃ (c b : Addr) (n L : Nat) (F : List Vr) (slots : List Nat) (p : Nat), vs = [.ref c, .ref b, nV p] ∧ RwAt H F c n L ∧ H b = some (tupN slots) ∧ slots.length ≤ d ∧ slots.length ≤ 3 ∧ (∀ s ∈ slots, s < n) ∧ p < L ∧ L ≤ 5 ∧
  ∀ (l : Addr) (xs : List V) H', Ex H H' → H l = none → H' l = some (.lst xs) → (∀ x ∈ xs, ItAt H' F slots p x) → xs.length ≤ bW slots.length p → Q (.ref l) H'
def spTrees : Sp := fun vs H Q _ => ∃ (f : Addr) (n : Nat) (F : List Vr) (r : Nat), vs = [.ref f, nV r] ∧ r ≤ 5 ∧ FmAt H f n F ∧ FmOk n F ∧ ∀ c H', Ex H H' → RwAt H' F c n (r + 1) → Q (.ref c) H'
def spSome : Sp := fun vs H Q _ => ∃ (t f : Addr) (n : Nat) (F : List Vr) (room : Int), vs = [.ref t, .ref f, .int room] ∧ Tp t H ∧ FmAt H f n F ∧ FmOk n F ∧ 0 ≤ room ∧ room ≤ 40 ∧
  ∀ (a q : Addr) (s : Nat) (T : List Nat) H', Go t H H' → H' a = some (.tup [nV s, .ref q]) → H' q = some (tupN T) → (T = [] ∨ (Forest F [s] T ∧ T.length ≤ 100)) → Q (.ref a) H'
def spCost : Sp := fun vs H Q _ => ∃ (x : V) (l : Addr) (v : Vr) (T : List (Option Int)), vs = [x, .ref l] ∧ VrAt H x v ∧ (H l = some (lstO T) ∨ H l = some (tupO T)) ∧ (∀ s ∈ v.slots, s < T.length) ∧ Q (oV (costOf T v)) H
def spJudged : Sp := fun vs H Q _ => ∃ (f l : Addr) (n : Nat) (F : List Vr) (T : List (Option Int)) (sg : Int), vs = [.ref f, .ref l, .int sg] ∧ FmAt H f n F ∧ FmOk n F ∧ H l = some (tupO T) ∧ T.length = n ∧ (sg = 1 ∨ sg = -1) ∧ ∀ b, (b = true ↔ Judged F T sg) → Q (.bl b) H
def spExtreme : Sp := fun vs H Q _ => ∃ (f : Addr) (n : Nat) (F : List Vr) (sg : Int), vs = [.ref f, .int sg] ∧ FmAt H f n F ∧ FmOk n F ∧ (sg = 1 ∨ sg = -1) ∧ (∀ l T H', Ex H H' → H l = none → H' l = some (lstO T) → T.length = n → Q (.ref l) H') ∧ ∀ H', Ex H H' → Q .non H'
def spMoved : Sp := fun vs H Q _ => ∃ (t f : Addr) (n : Nat) (F : List Vr) (sg : Int), vs = [.ref t, .ref f, .int sg] ∧ Tp t H ∧ FmAt H f n F ∧ FmOk n F ∧ (sg = 1 ∨ sg = -1) ∧ ∀ g G H', Go t H H' → FmAt H' g n G → FmOk n G → Q (.ref g) H'
def spTable : Sp := fun vs H Q _ => ∃ (t f : Addr) (n : Nat) (F : List Vr) (sg : Int), vs = [.ref t, .ref f, .int sg] ∧ Tp t H ∧ FmAt H f n F ∧ FmOk n F ∧ (sg = 1 ∨ sg = -1) ∧ ∀ a T H', Go t H H' → H' a = some (tupO T) → T.length = n → Q (.ref a) H'
def spCostOf : Sp := fun vs H Q _ => ∃ (f l : Addr) (n : Nat) (F : List Vr) (T : List (Option Int)) (i : Nat) (v : Vr), vs = [.ref f, .ref l, nV i] ∧ FmAt H f n F ∧ FmOk n F ∧ H l = some (tupO T) ∧ T.length = n ∧ F[i]? = some v ∧ Q (oV (costOf T v)) H
def spFloor (sg : Int) : Sp := fun vs H Q _ => ∃ (f l : Addr) (n : Nat) (F : List Vr) (T : List (Option Int)), vs = [.ref f, .ref l] ∧ FmAt H f n F ∧ FmOk n F ∧ H l = some (tupO T) ∧ T.length = n ∧ ∀ b H', Ex H H' → (b = true ↔ Judged F T sg) → Q (.bl b) H'
def spLaw (K : PySem.W.Frag) : Sp := fun vs H Q _ => ∃ (a : Addr) (ns : List Int), vs = [.ref a] ∧ SqL K H a (ns.map V.int) ∧ ns.length ≤ 63 ∧ ∀ H', Q (.bl true) H'
def spW : Nat → Sp
  | 0 => never
  | d + 1 => spWays d
def spF : Nat → Sp
  | 0 => never
  | d + 1 => spFillings d
end K39
/-! K39: small lemmas for the walks. -/
namespace K39
open PySem PySem.Spec PyProof.Rows L2 RT SkE
theorem go_tape {t a : Addr} {H : Hp} {p n r p2 n2 r2 : Int} (h : H t = some (.lst [.ref a, .int p, .int n, .int r])) (h0 : 0 ≤ p2) : Go t H (upd H t (.lst [.ref a, .int p2, .int n2, .int r2])) := by
  refine ⟨fun b o e d => ?_, fun a' p' n' r' hp e => ?_⟩
  · by_cases z : b = t
    · rcases d with d | d
      · exact absurd z d
      · rw [z, h] at e
        exact absurd (Option.some.inj e).symm (d _)
    · rw [upd_ne z]
      exact e
  · rw [h] at e
    cases e
    exact ⟨p2, n2, r2, h0, upd_same⟩
theorem fmod_in {k m : Int} (hm : 1 ≤ m) : 0 ≤ k.fmod (if (1 : Int) > m then 1 else m) ∧ k.fmod (if (1 : Int) > m then 1 else m) < m := by
  rw [if_neg (by omega)]
  exact ⟨Int.fmod_nonneg_of_pos _ (by omega), Int.fmod_lt_of_pos _ (by omega)⟩
theorem oV_dec (o : Option Int) : decide (oV o = V.non) = o.isNone := by
  cases o with
  | none => rfl
  | some i => exact decide_eq_false (fun z => by cases z)
theorem drop_at {α : Type} {l : List α} {i : Nat} {x : α} (h : l[i]? = some x) : l.drop i = x :: l.drop (i + 1) := by
  obtain ⟨hi, e⟩ := List.getElem?_eq_some_iff.mp h
  rw [← e]
  exact List.drop_eq_getElem_cons hi
theorem nV_at {l : List Nat} {i : Nat} {x : V} (h : (l.map nV)[i]? = some x) : ∃ s, l[i]? = some s ∧ x = nV s := by
  rw [List.getElem?_map] at h
  cases e : l[i]? with
  | none => rw [e] at h; cases h
  | some s => rw [e] at h; exact ⟨s, rfl, (Option.some.inj h).symm⟩
theorem oV_at {T : List (Option Int)} {s : Nat} {o : Option Int} (h : s < T.length) (e : tg T s = o) : (T.map oV)[s]? = some (oV o) := by
  rw [oV_get h, e]
theorem drop_end {l : List Nat} : l.drop (l.map nV).length = [] := by
  rw [List.length_map, List.drop_length]
theorem take_at {α : Type} {l : List α} {i : Nat} {x : α} (h : l[i]? = some x) : l.take (i + 1) = l.take i ++ [x] := by
  rw [List.take_add_one, h]
  rfl
/-- a family's variants, one by one -/
theorem FmAt.open_ {H : Hp} {f : Addr} {n : Nat} {F : List Vr} (h : FmAt H f n F) : ∃ (r : V) (va : Addr) (xs : List V), H f = some (.tup [nV n, r, .ref va]) ∧ H va = some (.tup xs) ∧ Paired (VrAt H) xs F := h
theorem oV_some (c : Int) : oV (some c) = V.int c := rfl
theorem oV_none : oV none = V.non := rfl
/-- a variant passes by a table -/
def Pass (T : List (Option Int)) (sg : Int) (v : Vr) : Prop := ∀ c, costOf T v = some c → ∃ x, tg T v.plug = some x ∧ 0 ≤ (c - x) * sg
theorem judged_all {F : List Vr} {T : List (Option Int)} {sg : Int} {k : Nat} (hk : F.length ≤ k) (h : ∀ (j : Nat) (v : Vr), j < k → F[j]? = some v → Pass T sg v) : Judged F T sg := fun v hv => by
  obtain ⟨j, hj⟩ := List.getElem?_of_mem hv
  exact h j v (by have := (List.getElem?_eq_some_iff.mp hj).1; omega) hj
theorem judged_not {F : List Vr} {T : List (Option Int)} {sg : Int} {j : Nat} {v : Vr} (h : F[j]? = some v) (n : ¬ Pass T sg v) : (false = true ↔ Judged F T sg) :=
  ⟨fun z => absurd z Bool.false_ne_true, fun J => absurd (J v (List.mem_of_getElem? h)) n⟩
theorem pass_more {F : List Vr} {T : List (Option Int)} {sg : Int} {i : Nat} {v : Vr} (h : ∀ (j : Nat) (v : Vr), j < i → F[j]? = some v → Pass T sg v) (hi : F[i]? = some v) (p : Pass T sg v) : ∀ (j : Nat) (v : Vr), j < i + 1 → F[j]? = some v → Pass T sg v := fun j u hj e => by
  by_cases z : j = i
  · rw [z, hi] at e
    cases e
    exact p
  · exact h j u (by omega) e
theorem pass_none {T : List (Option Int)} {sg : Int} {v : Vr} (h : costOf T v = none) : Pass T sg v := fun c e => by
  rw [h] at e
  cases e
theorem pass_some {T : List (Option Int)} {sg c x : Int} {v : Vr} (h : costOf T v = some c) (hx : tg T v.plug = some x) (q : 0 ≤ (c - x) * sg) : Pass T sg v := fun d e => by
  rw [h] at e
  cases e
  exact ⟨x, hx, q⟩
theorem pass_no {T : List (Option Int)} {sg c : Int} {v : Vr} (h : costOf T v = some c) (hx : tg T v.plug = none) : ¬ Pass T sg v := fun p => by
  obtain ⟨x, e, _⟩ := p c h
  rw [hx] at e
  cases e
theorem pass_less {T : List (Option Int)} {sg c x : Int} {v : Vr} (h : costOf T v = some c) (hx : tg T v.plug = some x) (q : (c - x) * sg < 0) : ¬ Pass T sg v := fun p => by
  obtain ⟨y, e, l⟩ := p c h
  rw [hx] at e
  cases e
  omega
theorem w_pop {H : Hp} {Q : VK} {p : Addr} {xs : List V} {y : V} (h : H p = some (.lst (xs ++ [y]))) (q : Q y (upd H p (.lst xs))) : rPop (.ref p) [] H Q := by
  refine ⟨p, xs ++ [y], y, rfl, rfl, h, ?_, ?_⟩
  · rw [List.length_append, List.length_singleton, Nat.add_sub_cancel, List.getElem?_append_right (Nat.le_refl _), Nat.sub_self]
    rfl
  · rw [List.dropLast_concat]
    exact q
theorem rev_cons (g : Nat) (r : List Nat) : (g :: r).reverse.map nV = r.reverse.map nV ++ [nV g] := by
  rw [List.reverse_cons, List.map_append]
  rfl
theorem rev_get {l : List Nat} {i : Nat} {x : V} (hi : i < (l.map nV).length) (h : (l.map nV)[(l.map nV).length - 1 - i]? = some x) : ∃ s, l.reverse[i]? = some s ∧ x = nV s := by
  rw [List.length_map] at hi
  rw [List.length_map] at h
  obtain ⟨s, hs, e⟩ := nV_at h
  refine ⟨s, ?_, e⟩
  rw [List.getElem?_reverse hi]
  exact hs
theorem menu {l : List Int} {r : Int} (P : Int → Prop) (hP : ∀ c ∈ l, P c) (h0 : 0 ≤ r) (h : r < (l.length : Int)) : ∃ c, P c ∧ atI (l.map V.int) r = some (.int c) := by
  have hi : r.toNat < l.length := by omega
  refine ⟨l[r.toNat], hP _ (List.getElem_mem hi), at_of (j := r.toNat) (by omega) ?_⟩
  rw [List.getElem?_map, List.getElem?_eq_getElem hi]
  rfl
theorem menuO {l : List (Option Int)} {r : Int} (h0 : 0 ≤ r) (h : r < (l.length : Int)) : ∃ o, atI (l.map oV) r = some (oV o) := by
  have hi : r.toNat < l.length := by omega
  refine ⟨l[r.toNat], at_of (j := r.toNat) (by omega) ?_⟩
  rw [List.getElem?_map, List.getElem?_eq_getElem hi]
  rfl
theorem ref_dec (a : Addr) : decide (V.ref a = V.non) = false := decide_eq_false (fun z => by cases z)
theorem pair_one {α β : Type} {R : α → β → Prop} {x : α} {y : β} (h : R x y) : Paired R [x] [y] := .cons h .nil
theorem pair_mono {H H' : Hp} (h : TE H H') {xs : List V} {F : List Vr} (p : Paired (VrAt H) xs F) : Paired (VrAt H') xs F := Paired.mapP p fun x v q => q.mono h
/-- a row of a table of numbers, a number in it -/
theorem ct_row {H : Hp} {n L : Nat} {rs : List Addr} (hl : rs.length = L) (hrs : ∀ (k : Nat) (r : Addr), rs[k]? = some r → ∃ row : List Int, H r = some (.lst (row.map V.int)) ∧ row.length = n ∧ ∀ x ∈ row, 0 ≤ x ∧ x ≤ (bR k : Int)) {k : Nat} (hk : k < L) :
    ∃ (r : Addr) (row : List Int), (rs.map V.ref)[k]? = some (.ref r) ∧ H r = some (.lst (row.map V.int)) ∧ row.length = n ∧ ∀ s < n, ∃ c, (row.map V.int)[s]? = some (.int c) ∧ 0 ≤ c ∧ c ≤ (bR k : Int) := by
  have hk' : k < rs.length := by omega
  have e : rs[k]? = some rs[k] := List.getElem?_eq_getElem hk'
  obtain ⟨row, h1, h2, h3⟩ := hrs k _ e
  refine ⟨rs[k], row, by rw [List.getElem?_map, e]; rfl, h1, h2, fun s hs => ?_⟩
  have hs' : s < row.length := by omega
  have q := h3 row[s] (List.getElem_mem hs')
  exact ⟨row[s], by rw [List.getElem?_map, List.getElem?_eq_getElem hs']; rfl, q.1, q.2⟩
theorem mul_up {a b A B : Int} (ha : 0 ≤ a) (hb : 0 ≤ b) (h1 : a ≤ A) (h2 : b ≤ B) : 0 ≤ a * b ∧ a * b ≤ A * B :=
  ⟨Int.mul_nonneg ha hb, Int.mul_le_mul h1 h2 hb (Int.le_trans ha h1)⟩
theorem cal_never {P : Program} {w : World} {K : PySem.W.Frag} {mg : Str → Option Value} {base : Heap} {f : Addr} {fd : FuncData} {x : Str} {ps : List Str} (hm : mg x = some (.ref f)) (kp : PySem.W.keepIn K (.ref f) = true) (hb : Binds K fd ps []) : Cal P w K mg base x ps 0 never :=
  ⟨f, fd, ⟨fun _ _ _ _ h => h.elim, fun _ _ _ _ _ _ _ _ _ _ _ _ _ h => h.elim⟩, hm, kp, hb⟩
/-- all stands but the list at l -/
def Bt (l : Addr) (H H' : Hp) : Prop := ∀ b o, (b ≠ l ∨ ∀ ys, o ≠ .lst ys) → H b = some o → H' b = some o
theorem Bt.refl (l : Addr) (H : Hp) : Bt l H H := fun _ _ _ h => h
theorem Bt.trans {l : Addr} {A B C : Hp} (h : Bt l A B) (k : Bt l B C) : Bt l A C := fun b o d e => k b o d (h b o d e)
theorem Bt.ex {l : Addr} {H H' : Hp} (h : Ex H H') : Bt l H H' := fun b o _ e => h b o e
theorem Bt.te {l : Addr} {H H' : Hp} (h : Bt l H H') : TE H H' := fun b xs e => h b _ (.inr fun ys z => by cases z) e
theorem Bt.at_ {l : Addr} {H H' : Hp} (h : Bt l H H') {b : Addr} {o : HO} (e : H b = some o) (ne : b ≠ l) : H' b = some o := h b o (.inl ne) e
theorem Bt.set {l : Addr} {H : Hp} {xs ys : List V} (h : H l = some (.lst xs)) : Bt l H (upd H l (.lst ys)) := fun b o d e => by
  by_cases z : b = l
  · rcases d with d | d
    · exact absurd z d
    · rw [z, h] at e
      exact absurd (Option.some.inj e).symm (d _)
  · rw [upd_ne z]
    exact e
theorem w_catT2 {K : PySem.W.Frag} {H : Hp} {Q : VK} {a b : Addr} {xs ys : List V} (h : H a = some (.tup xs)) (k : H b = some (.tup ys)) (ne : xs ≠ []) (hz : xs.length + ys.length ≤ sizeLine) (q : ∀ c H', Ex H H' → H' c = some (.tup (xs ++ ys)) → Q (.ref c) H') : rCatT K (.ref a) (.ref b) H Q := by
  refine w_catT h k ne hz (fun e => ?_) (fun e p hp => ?_)
  · refine q a H (Evl.Ex.refl H) ?_
    rw [e, List.append_nil]
    exact h
  · exact q p _ (Evl.Ex.new hp) upd_same
theorem small7 {n : Nat} (h : n ≤ 5000000) : n < sizeLine := Nat.lt_of_le_of_lt h (by decide)
/-- a row of a table of trees, a cell of it -/
theorem rw_cell {H : Hp} {F : List Vr} {c : Addr} {n L : Nat} {rs : List Addr} (hl : rs.length = L) (hrs : ∀ (k : Nat) (r : Addr), rs[k]? = some r → RoAt H F r n k (bR k)) {k : Nat} (hk : k < L) :
    ∃ (r : Addr) (cs : List Addr), (rs.map V.ref)[k]? = some (.ref r) ∧ H r = some (.lst (cs.map V.ref)) ∧ ∀ s < n, ∃ a, (cs.map V.ref)[s]? = some (.ref a) ∧ ClAt H F s k (bR k) a := by
  have hk' : k < rs.length := by omega
  have e : rs[k]? = some rs[k] := List.getElem?_eq_getElem hk'
  obtain ⟨cs, h1, h2, h3⟩ := hrs k _ e
  refine ⟨rs[k], cs, by rw [List.getElem?_map, e]; rfl, h1, fun s hs => ?_⟩
  have hs' : s < cs.length := by omega
  have e2 : cs[s]? = some cs[s] := List.getElem?_eq_getElem hs'
  exact ⟨cs[s], by rw [List.getElem?_map, e2]; rfl, h3 s _ e2⟩
end K39
namespace K39
open PySem PySem.Spec PyProof.Rows L2 RT SkE
section
variable {P : Program} {w : World} {K : PySem.W.Frag} {mg : Str → Option Value} {base : Heap} {f : Addr} {fd : FuncData}
local macro_rules | `(tactic| walk_at "go") => `(tactic| repeat (first
  | ((with_reducible refine' w_var ?hv ?_); (case hv => exact rfl))
  | with_reducible refine w_c ?_
  | with_reducible refine w_op ?_
  | with_reducible refine w_cons ?_
  | with_reducible refine w_nil ?_
  | with_reducible refine w_I0 ?_
  | ((with_reducible refine' w_ixL ?hp ?ha ?_); (case hp => assumption); (case ha => first | rfl | exact atI_nat (by assumption) | assumption))
  | ((with_reducible refine' w_ixT ?hp ?ha ?_); (case hp => assumption); (case ha => first | rfl | exact atI_nat (by assumption) | assumption))
  | with_reducible refine w_seq ?_
  | with_reducible refine w_asg ?_
  | with_reducible refine w_name ?_
  | with_reducible refine w_nx ?_
  | with_reducible refine w_test ?_
  | with_reducible refine w_bl ?_
  | with_reducible refine w_eqI ?_
  | with_reducible refine w_isN ?_
  | with_reducible refine w_notN ?_
  | with_reducible refine w_if ?_
  | with_reducible refine w_ret ?_
  | with_reducible refine w_cb ?_
  | with_reducible refine w_cal ?_
  | with_reducible refine w_int ?_
  | with_reducible refine w_intB ?_
  | with_reducible refine w_abs ?_
  | with_reducible refine w_max ?_
  | with_reducible refine w_min ?_
  | ((with_reducible refine' w_lenL ?hp ?_); (case hp => assumption))
  | ((with_reducible refine' w_lenT ?hp ?_); (case hp => assumption))
  | ((with_reducible refine' w_I (C := CMul) ?hc ?_); (case hc => first | exact .inr ⟨by decide, by decide⟩ | exact .inl ⟨by decide, by decide⟩ | exact .inl ⟨by omega, by omega⟩ | exact .inr ⟨by omega, by omega⟩))
  | ((with_reducible refine' w_I (C := CPow) ?hc ?_); (case hc => exact ⟨by decide, by decide, by decide⟩))
  | ((with_reducible refine' w_I (C := fun _ j => j ≠ 0) ?hc ?_); (case hc => (show _ ≠ (0 : Int)); first | decide | omega))
  | ((with_reducible refine w_I (C := CMulW) ?hc ?_); (case hc => decide +kernel))
  | with_reducible refine w_un ?_
  | with_reducible refine w_U ?_
  | with_reducible refine w_and ?_
  | with_reducible refine w_or ?_
  | with_reducible refine w_not ?_
  | with_reducible refine w_tru ?_
  | with_reducible refine w_tup ?_
  | with_reducible refine w_lst ?_
  | with_reducible refine w_sub ?_
  | ((with_reducible refine' w_setL ?hp ?hi ?_); (case hp => assumption); (case hi => first | rfl | exact ix_nat (by assumption) | assumption))
  | with_reducible refine w_drop ?_
  | with_reducible refine w_bm ?_
  | with_reducible refine w_bm0 ?_
  | ((with_reducible refine' w_tyL ?hp ?_); (case hp => assumption))
  | with_reducible refine w_next ?_
  | with_reducible refine w_brk ?_
  | with_reducible refine w_bk ?_
  | with_reducible refine w_rt ?_
  | ((with_reducible refine' w_aug ?hv ?_); (case hv => exact rfl))
  | with_reducible refine w_augI ?_
  | with_reducible refine w_for ?_
  | with_reducible refine w_iTup ?_
  | with_reducible refine w_iList ?_
  | with_reducible refine w_iR1 ?_
  | with_reducible refine w_iR2 ?_
  | with_reducible refine w_iEn ?_
  | with_reducible refine w_iRev ?_
  | with_reducible refine w_sl ?_
  | with_reducible refine w_part ?_
  | with_reducible refine w_nopart ?_
  | with_reducible refine w_int1 ?_
  | with_reducible refine w_neS ?_
  | with_reducible refine w_reprB ?_
  | with_reducible refine w_trB ?_
  | ((with_reducible refine' w_trL ?hp ?_); (case hp => assumption))
  | ((with_reducible refine' w_trT ?hp ?_); (case hp => assumption))
  | with_reducible refine w_lc ?_
  | with_reducible refine w_yes ?_))
theorem ok_draw (F : Fun K "_law_draw" "_law_draw" s_draw f fd) (B : Bi mg) : FnOk P w K mg base CX0 1 f fd ["_law_tape_here", "_law_menu"] spDraw := by
  refine F.ok sc_draw (fun vs H Q E h => ?_) (fun cdv A outer s H vs Q E hr h => ?_)
  · obtain ⟨t, m, rfl, _⟩ := h
    rfl
  obtain ⟨t, m, rfl, hT, hm, hM, q⟩ := h
  obtain ⟨a, ns, p, n, r, hat, h0, ht, ha⟩ := id hT
  have hmax : (if (1 : Int) > m then 1 else m) ≠ 0 := by split <;> omega
  refine ⟨_, (Evl.pss_cut (ps_if (pt_cmpR op_eq (pe_ix (ix_listK (K := K) rfl) (pv 0) pe_int (fun _ _ => rfl)) pe_int (nomark _))
    (pss_cons (ps_set (i := 2) sc_draw.nd rfl (Or.inl rfl) (pe_ix (ix_listK (K := K) rfl) (pv 0) pe_int (fun _ _ => rfl)))
      (pss_cons (ps_set (i := 3) sc_draw.nd rfl (Or.inl rfl) pe_int)
      (Evl.pss_cut (ps_if (pt_cmpR op_lt (pv 2) (pe_callB (c_lenK (K := K) rfl) (by rfl) B.len PySem.boot_len (pa_cons (pe_ix (ix_listK (K := K) rfl) (pv 0) pe_int (fun _ _ => rfl)) pa_nil)) (nomark _))
      (pss_one (ps_set (i := 3) sc_draw.nd rfl (Or.inl rfl) (pe_callB c_abs (by rfl) B.abs PyProof.Rows.boot_abs (pa_cons (pe_callTy c_int (by rfl) B.int PyProof.Rows.boot_int (pa_cons (pe_ix (ix_listK (K := K) rfl) (pe_ix (ix_listK (K := K) rfl) (pv 0) pe_int (fun _ _ => rfl)) (pv 2) (fun _ _ => rfl)) pa_nil)) pa_nil))))
      (pss_cons (ps_asg (pe_op op_modN (pe_callTy c_int (by rfl) B.int PyProof.Rows.boot_int (pa_cons (pe_op op_add (pe_op op_add (pe_op op_mul (pe_ix (ix_listK (K := K) rfl) (pv 0) pe_int (fun _ _ => rfl)) pe_int) (pv 2)) pe_int) pa_nil)) pe_int) (pg_sub (pv 0) pe_int set_list))
        (pss_one (ps_set (i := 3) sc_draw.nd rfl (Or.inl rfl) (pe_ix (ix_listK (K := K) rfl) (pv 0) pe_int (fun _ _ => rfl))))))
      (pss_cons (ps_asg (pe_op op_add (pv 2) pe_int) (pg_sub (pv 0) pe_int set_list))
      (pss_cons (ps_if (pt_cmpR op_lt (pv 3) (pe_op op_pow pe_int pe_int) (nomark _))
      (pss_cons (ps_set (i := 3) sc_draw.nd rfl (Or.inl rfl) (pe_op op_modN (pe_callTy c_int (by rfl) B.int PyProof.Rows.boot_int (pa_cons (pe_op op_add (pe_op op_add (pe_op op_mul (pv 3) pe_int) (pe_op op_mul (pv 2) pe_int)) pe_int) pa_nil)) pe_int))
        (pss_cons (ps_set (i := 3) sc_draw.nd rfl (Or.inl rfl) (pe_op op_modN (pe_callTy c_int (by rfl) B.int PyProof.Rows.boot_int (pa_cons (pe_op op_mul (pv 3) pe_int) pa_nil)) pe_int))
        (pss_one (ps_ret (pe_op op_modN (pe_callTy c_int (by rfl) B.int PyProof.Rows.boot_int (pa_cons (pv 3) pa_nil)) (pe_callB (c_max rfl) (by rfl) B.max PyProof.Rows.boot_max (pa_cons (pv 1) (pa_cons pe_int pa_nil))))))))
      pss_nil)
      (pss_one (ps_asg (pv 3) (pg_sub (pv 0) pe_int set_list))))))))
    pss_nil)
    (pss_cons (ps_set (i := 3) sc_draw.nd rfl (Or.inl rfl) (pe_ix (ix_listK (K := K) rfl) (pv 0) pe_int (fun _ _ => rfl)))
    (pss_cons (ps_asg (pe_op op_fdivN (pv 3) (pe_callB (c_max rfl) (by rfl) B.max PyProof.Rows.boot_max (pa_cons (pv 1) (pa_cons pe_int pa_nil)))) (pg_sub (pv 0) pe_int set_list))
    (pss_one (ps_ret (pe_op op_modN (pe_callTy c_int (by rfl) B.int PyProof.Rows.boot_int (pa_cons (pv 3) pa_nil)) (pe_callB (c_max rfl) (by rfl) B.max PyProof.Rows.boot_max (pa_cons (pv 1) (pa_cons pe_int pa_nil))))))))), ?_⟩
  refine w_cutS (Mid := fun σ' H' => ∃ x2 x3, σ' = [some (.ref t), some (.int m), x2, x3] ∧ Go t H H') ?_ fun σ' H' hmid => ?_
  · walk_at "go"
    refine ite2 (fun e => ?_) (fun e => ?_)
    · walk_at "go"
      refine w_cutS (Mid := fun σ' H' => ∃ k r', σ' = [some (.ref t), some (.int m), some (.int p), some (.int k)] ∧ Go t H H' ∧ H' t = some (.lst [.ref a, .int p, .int n, .int r'])) ?_ fun σ' H' hmid => ?_
      · walk_at "go"
        refine ite2 (fun e2 => ?_) (fun e2 => ?_)
        · have e2 := of_decide_eq_true e2
          have hi : p.toNat < ns.length := by
            rw [List.length_map] at e2
            omega
          have hx : (ns.map V.int)[p.toNat]? = some (.int ns[p.toNat]) := by
            rw [List.getElem?_map, List.getElem?_eq_getElem hi]
            rfl
          have hx2 : atI (ns.map V.int) p = some (.int ns[p.toNat]) := at_of (by omega) hx
          walk_at "go"
          exact ⟨_, r, rfl, Go.refl t H, ht⟩
        · walk_at "go"
          refine w_ixL upd_same rfl ?_
          walk_at "go"
          exact ⟨_, _, rfl, go_tape ht h0, upd_same⟩
      · obtain ⟨k, r', rfl, g, ht'⟩ := hmid
        walk_at "go"
        refine ite2 (fun e2 => ?_) (fun e2 => ?_)
        · walk_at "go"
          have fm := fmod_in (k := ((k * 48271 + p * 69621 + 5).fmod 2147483647 * 69621).fmod 2147483629) hm
          exact q _ _ (g.trans (go_tape ht' (by omega))) fm.1 fm.2
        · walk_at "go"
          refine w_setL upd_same rfl ?_
          walk_at "go"
          exact ⟨_, _, rfl, (g.trans (go_tape ht' (by omega))).trans (go_tape upd_same (by omega))⟩
    · walk_at "go"
      exact ⟨_, _, rfl, Go.refl t H⟩
  · obtain ⟨x2, x3, rfl, g⟩ := hmid
    obtain ⟨a', ns', p', n', r', hat', h0', ht', ha'⟩ := g.tp hT
    walk_at "go"
    refine w_I (C := CDivN) ⟨by split <;> omega, by split <;> omega⟩ ?_
    walk_at "go"
    have fm := fmod_in (k := n') hm
    exact q _ _ (g.trans (go_tape ht' h0')) fm.1 fm.2
theorem ok_tape (F : Fun K "_law_tape" "_law_tape" s_tape f fd) (B : Bi mg) : FnOk P w K mg base CX0 1 f fd ["_law_script"] (spTape K) := by
  refine F.ok sc_tape (fun vs H Q E h => ?_) (fun cdv A outer s H vs Q E hr h => ?_)
  · obtain ⟨a, ns, rfl, _⟩ := h
    rfl
  obtain ⟨a, ns, rfl, hS, hl, q⟩ := h
  refine ⟨_, (pss_cons (ps_set (i := 1) sc_tape.nd rfl (Or.inl rfl) pe_int)
    (pss_cons (ps_for PassesOwn.never rfl (pi_list (pv 0)) (pg_name (i := 2) sc_tape.nd rfl (Or.inl rfl))
    (pss_one (ps_set (i := 1) sc_tape.nd rfl (Or.inl rfl) (pe_op op_modN (pe_callTy c_int (by rfl) B.int PyProof.Rows.boot_int (pa_cons (pe_op op_add (pe_op op_mul (pv 1) pe_int) (pe_callB c_abs (by rfl) B.abs PyProof.Rows.boot_abs (pa_cons (pe_callTy c_int (by rfl) B.int PyProof.Rows.boot_int (pa_cons (pv 2) pa_nil)) pa_nil))) pa_nil)) pe_int))))
    (pss_one (ps_ret (pe_lst (pa_cons (pe_callTy (c_listK (K := K) rfl) (by rfl) B.list PyProof.Rows.boot_list (pa_cons (pv 0) pa_nil)) (pa_cons pe_int (pa_cons pe_int (pa_cons (pv 1) pa_nil))))))))), ?_⟩
  walk_at "go"
  refine ⟨a, rfl, ⟨_, hS⟩, for_list (xs := ns.map V.int) (fun i σ H' => ∃ k x2, σ = [some (.ref a), some (.int k), x2] ∧ H' = H) ⟨_, _, rfl, rfl⟩ (fun i σ H' _ p => ?_) (fun i x σ H' hx p => ?_) (fun σ H' p => ?_)⟩
  · obtain ⟨k, x2, _, rfl⟩ := p
    exact hS
  · obtain ⟨k, x2, rfl, rfl⟩ := p
    obtain ⟨c, rfl⟩ : ∃ c, x = .int c := by
      rw [List.getElem?_map] at hx
      cases e : ns[i]? with
      | none => rw [e] at hx; cases hx
      | some c => rw [e] at hx; exact ⟨c, (Option.some.inj hx).symm⟩
    walk_at "go"
    exact ⟨_, _, rfl, rfl⟩
  · obtain ⟨k, x2, rfl, rfl⟩ := p
    walk_at "go"
    refine w_list hS fun l hl => ?_
    walk_at "go"
    refine ⟨lenOk (n := 4) rfl, fun t ht => ?_⟩
    have hlt : l ≠ t := fun e => by
      rw [e, upd_same] at ht
      cases ht
    have e1 : Ex H' (upd H' l (.lst (ns.map V.int))) := Evl.Ex.new hl
    have e2 : Ex (upd H' l (.lst (ns.map V.int))) (upd (upd H' l (.lst (ns.map V.int))) t (.lst [.ref l, .int 0, .int 0, .int k])) := Evl.Ex.new ht
    exact q t _ (e1.trans e2) (Ex.back e1 ht) ⟨l, ns, 0, 0, k, hlt, Int.le_refl 0, upd_same, e2 l _ upd_same⟩
theorem ok_price (F : Fun K "_law_price" "_law_price" s_price f fd) (C_draw : Cal P w K mg base "_law_draw" ["_law_tape_here", "_law_menu"] 1 spDraw) : FnOk P w K mg base CX0 2 f fd ["_law_tape_here", "_law_mode", "_law_low"] spPrice := by
  refine F.ok sc_price (fun vs H Q E h => ?_) (fun cdv A outer s H vs Q E hr h => ?_)
  · obtain ⟨t, m, l, rfl, _⟩ := h
    rfl
  obtain ⟨t, m, l, rfl, hT, hm, hM, q⟩ := h
  refine ⟨_, (pss_cons (ps_if (pt_cmpR op_eq (pe_cal C_draw hr (by decide) (by rfl) (pa_cons (pv 0) (pa_cons pe_int pa_nil))) pe_int (nomark _))
    (pss_one (ps_ret pe_non))
    pss_nil)
    (pss_cons (ps_set (i := 3) sc_price.nd rfl (Or.inl rfl) (pe_cal C_draw hr (by decide) (by rfl) (pa_cons (pv 0) (pa_cons (pe_ix (ix_listK (K := K) rfl) (pe_lst (pa_cons pe_int (pa_cons pe_int (pa_cons pe_int (pa_cons (pe_op op_add (pe_op op_pow pe_int pe_int) pe_int) pa_nil))))) (pv 1) (fun _ _ => rfl)) pa_nil))))
    (Evl.pss_cut (ps_if (PW.pt (pw_and (pt_cmpR op_eq (pv 2) pe_int (nomark _)) (pw_and1 (pt_cmpR op_eq (pe_cal C_draw hr (by decide) (by rfl) (pa_cons (pv 0) (pa_cons pe_int pa_nil))) pe_int (nomark _)))))
    (pss_one (ps_set (i := 3) sc_price.nd rfl (Or.inl rfl) (pe_un un_neg (pv 3))))
    pss_nil)
    (pss_one (ps_ret (pv 3)))))), ?_⟩
  walk_at "go"
  refine ⟨t, 8, rfl, hT, by decide, by decide, fun r H1 g1 h0 h8 => ?_⟩
  walk_at "go"
  refine ite2 (fun e => ?_) (fun e => ?_)
  · walk_at "go"
    exact q none H1 g1 (fun i z => by cases z)
  walk_at "go"
  refine ⟨by decide, fun p hp => ?_⟩
  have g2 : Go t H1 (upd H1 p (.lst [.int 1, .int 2, .int 10, .int (10 ^ (9 : Int).toNat + 1)])) := Go.new hp
  obtain ⟨c, hc, hc1, hc2⟩ : ∃ c : Int, atI [V.int 1, V.int 2, V.int 10, V.int (10 ^ (9 : Int).toNat + 1)] m = some (.int c) ∧ 1 ≤ c ∧ c ≤ 1000000001 := by
    rcases (by omega : m = 0 ∨ m = 1 ∨ m = 2 ∨ m = 3) with rfl | rfl | rfl | rfl
    · exact ⟨1, rfl, by decide, by decide⟩
    · exact ⟨2, rfl, by decide, by decide⟩
    · exact ⟨10, rfl, by decide, by decide⟩
    · exact ⟨10 ^ (9 : Int).toNat + 1, rfl, by decide, by decide⟩
  walk_at "go"
  refine w_ixL upd_same hc ?_
  walk_at "go"
  have g12 := g1.trans g2
  refine ⟨t, c, rfl, g12.tp hT, hc1, by omega, fun r2 H2 g3 h20 h2c => ?_⟩
  have g13 := g12.trans g3
  walk_at "go"
  refine w_cutS (Mid := fun σ' H' => ∃ k : Int, σ' = [some (.ref t), some (.int m), some (.int l), some (.int k)] ∧ Go t H H' ∧ -1000000000 ≤ k ∧ k ≤ 1000000000) ?_ fun σ' H' hmid => ?_
  · walk_at "go"
    refine ite2 (fun e => ?_) (fun e => ?_)
    · walk_at "go"
      refine ⟨t, 3, rfl, g13.tp hT, by decide, by decide, fun r3 H3 g4 _ _ => ?_⟩
      walk_at "go"
      refine ite2 (fun e => ?_) (fun e => ?_)
      · walk_at "go"
        exact ⟨-r2, rfl, g13.trans g4, by omega, by omega⟩
      · walk_at "go"
        exact ⟨r2, rfl, g13.trans g4, by omega, by omega⟩
    · refine ite2 (fun z => absurd z Bool.false_ne_true) fun _ => ?_
      walk_at "go"
      exact ⟨r2, rfl, g13, by omega, by omega⟩
  · obtain ⟨k, rfl, g, hk1, hk2⟩ := hmid
    walk_at "go"
    exact q (some k) H' g (fun i z => by cases z; exact ⟨hk1, hk2⟩)
theorem ok_size (F : Fun K "_law_size" "_law_size" s_size f fd) : FnOk P w K mg base CX0 1 f fd ["_law_variant", "_law_sizes_here"] spSize := by
  refine F.ok sc_size (fun vs H Q E h => ?_) (fun cdv A outer s H vs Q E hr h => ?_)
  · obtain ⟨x, l, v, S, rfl, _⟩ := h
    rfl
  obtain ⟨x, l, v, S, rfl, hv, hl, hs, q⟩ := h
  obtain ⟨a, b, rfl, ha, hb⟩ := hv
  refine ⟨_, (pss_cons (ps_if (pt_cmpR o_isN (pe_ix (ix_tupK (K := K) rfl) (pv 0) pe_int (fun _ _ => rfl)) pe_non (nomark _))
    (pss_one (ps_ret pe_non))
    pss_nil)
    (pss_cons (ps_set (i := 2) sc_size.nd rfl (Or.inl rfl) pe_int)
    (pss_cons (ps_for PassesOwn.never rfl (pi_tup (pe_ix (ix_tupK (K := K) rfl) (pv 0) pe_int (fun _ _ => rfl))) (pg_name (i := 3) sc_size.nd rfl (Or.inl rfl))
    (pss_cons (ps_if (pt_cmpR o_isN (pe_ix (ix_listK (K := K) rfl) (pv 1) (pv 3) (fun _ _ => rfl)) pe_non (nomark _))
      (pss_one (ps_ret pe_non))
      pss_nil)
      (pss_one (ps_set (i := 2) sc_size.nd rfl (Or.inl rfl) (pe_op op_add (pv 2) (pe_ix (ix_listK (K := K) rfl) (pv 1) (pv 3) (fun _ _ => rfl)))))))
    (pss_one (ps_ret (pv 2)))))), ?_⟩
  walk_at "go"
  rw [oV_dec]
  cases hp : v.price with
  | none =>
    refine iteT ?_
    walk_at "go"
    have e : sizeOf S v = none := by
      unfold sizeOf
      rw [hp]
    rw [e] at q
    exact q
  | some p0 =>
    refine iteF ?_
    have e : sizeOf S v = acc S 1 v.slots := by
      unfold sizeOf
      rw [hp]
    rw [e] at q
    walk_at "go"
    refine ⟨b, rfl, ⟨_, SqT.of hb⟩, for_tup (xs := v.slots.map nV) (fun i σ H' => ∃ c x3, σ = [some (.ref a), some (.ref l), some (.int c), x3] ∧ H' = H ∧ acc S 1 v.slots = acc S c (v.slots.drop i)) ⟨_, _, rfl, rfl, rfl⟩ (fun i σ H' _ p => ?_) (fun i x σ H' hx p => ?_) (fun σ H' p => ?_)⟩
    · obtain ⟨c, x3, _, rfl, _⟩ := p
      exact SqT.of hb
    · obtain ⟨c, x3, rfl, rfl, hc⟩ := p
      obtain ⟨s0, hs0, rfl⟩ := nV_at hx
      rw [drop_at hs0] at hc
      have hlt := hs s0 (List.mem_of_getElem? hs0)
      have hg := oV_get hlt
      walk_at "go"
      rw [oV_dec]
      cases ht : tg S s0 with
      | none =>
        refine iteT ?_
        walk_at "go"
        rw [acc_cons_none ht] at hc
        rw [hc] at q
        exact q
      | some y =>
        refine iteF ?_
        have hg : (S.map oV)[s0]? = some (.int y) := by
          rw [hg, ht]
          rfl
        rw [acc_cons_some ht] at hc
        walk_at "go"
        exact ⟨_, _, rfl, rfl, hc⟩
    · obtain ⟨c, x3, rfl, rfl, hc⟩ := p
      walk_at "go"
      rw [List.length_map, List.drop_length] at hc
      rw [hc] at q
      exact q
theorem ok_cost (F : Fun K "_law_cost" "_law_cost" s_cost f fd) : FnOk P w K mg base CX0 1 f fd ["_law_variant", "_law_table"] spCost := by
  refine F.ok sc_cost (fun vs H Q E h => ?_) (fun cdv A outer s H vs Q E hr h => ?_)
  · obtain ⟨x, l, v, S, rfl, _⟩ := h
    rfl
  obtain ⟨x, l, v, T, rfl, hv, hl, hs, q⟩ := h
  obtain ⟨a, b, rfl, ha, hb⟩ := hv
  have ixs : ∀ (s : Nat) (K' : PySem.W.Frag) (Q' : VK), s < T.length → Q' (oV (tg T s)) H → rIx K' (.ref l) (nV s) H Q' := fun s K' Q' hlt q => by
    rcases hl with hl | hl
    · exact w_sL (w_ixL hl (atI_nat (oV_get hlt)) q)
    · exact w_sT (w_ixT hl (atI_nat (oV_get hlt)) q)
  refine ⟨_, (pss_cons (ps_set (i := 2) sc_cost.nd rfl (Or.inl rfl) (pe_ix (ix_tupK (K := K) rfl) (pv 0) pe_int (fun _ _ => rfl)))
    (pss_cons (ps_for PassesOwn.never rfl (pi_tup (pe_ix (ix_tupK (K := K) rfl) (pv 0) pe_int (fun _ _ => rfl))) (pg_name (i := 3) sc_cost.nd rfl (Or.inl rfl))
    (pss_cons (ps_if (PW.pt (pw_or (pt_cmpR o_isN (pv 2) pe_non (nomark _)) (pw_or1 (pt_cmpR o_isN (pe_ix (ix_seqK (K := K) rfl) (pv 1) (pv 3) (fun _ _ => rfl)) pe_non (nomark _)))))
      (pss_one (ps_ret pe_non))
      pss_nil)
      (pss_one (ps_set (i := 2) sc_cost.nd rfl (Or.inl rfl) (pe_op op_add (pv 2) (pe_ix (ix_seqK (K := K) rfl) (pv 1) (pv 3) (fun _ _ => rfl)))))))
    (pss_one (ps_ret (pv 2))))), ?_⟩
  walk_at "go"
  have hc0 : costOf T v = match v.price with
    | some p => acc T p (v.slots.drop 0)
    | none => none := rfl
  refine ⟨b, rfl, ⟨_, SqT.of hb⟩, for_tup (xs := v.slots.map nV) (fun i σ H' => ∃ o x3, σ = [some (.ref a), some (.ref l), some (oV o), x3] ∧ H' = H ∧ costOf T v = match o with
    | some c => acc T c (v.slots.drop i)
    | none => none) ⟨v.price, none, rfl, rfl, hc0⟩ (fun i σ H' _ p => ?_) (fun i x σ H' hx p => ?_) (fun σ H' p => ?_)⟩
  · obtain ⟨c, x3, _, rfl, _⟩ := p
    exact SqT.of hb
  · obtain ⟨o, x3, rfl, rfl, hc⟩ := p
    obtain ⟨s0, hs0, rfl⟩ := nV_at hx
    rw [drop_at hs0] at hc
    have hlt := hs s0 (List.mem_of_getElem? hs0)
    walk_at "go"
    rw [oV_dec]
    cases o with
    | none =>
      refine iteT ?_
      refine iteT ?_
      walk_at "go"
      rw [hc] at q
      exact q
    | some c =>
      refine iteF ?_
      walk_at "go"
      refine ixs s0 _ _ hlt ?_
      walk_at "go"
      rw [oV_dec]
      cases ht : tg T s0 with
      | none =>
        refine iteT ?_
        walk_at "go"
        have hc' : costOf T v = none := by
          rw [hc]
          exact acc_cons_none ht
        rw [hc'] at q
        exact q
      | some y =>
        refine iteF ?_
        refine w_nx ?_
        refine w_asg ?_
        refine w_op ?_
        refine w_var (v := .int c) rfl ?_
        walk_at "go"
        refine ixs s0 _ _ hlt ?_
        rw [ht]
        refine w_I0 (i := c) (j := y) ?_
        walk_at "go"
        exact ⟨some (c + y), _, rfl, rfl, by rw [hc]; exact acc_cons_some ht⟩
  · obtain ⟨o, x3, rfl, rfl, hc⟩ := p
    walk_at "go"
    rw [drop_end] at hc
    cases o with
    | none =>
      rw [hc] at q
      exact q
    | some c =>
      rw [hc] at q
      exact q
theorem ok_cost_of (Fn : Fun K "cost_of" "cost_of" s_cost_of f fd) : FnOk P w K mg base CX0 1 f fd ["family", "table", "number"] spCostOf := by
  refine Fn.ok sc_cost_of (fun vs H Q E h => ?_) (fun cdv A outer s H vs Q E hr h => ?_)
  · obtain ⟨f, l, n, F, T, i, v, rfl, _⟩ := h
    rfl
  obtain ⟨f, l, n, F, T, i, v, rfl, hF, ok, hl, hT, hi, q⟩ := h
  obtain ⟨r, va, xs, h1, h2, h3⟩ := hF
  obtain ⟨x, hx, a, b, rfl, ha, hb⟩ := pair_at h3 hi
  have vok := ok.all v (List.mem_of_getElem? hi)
  refine ⟨_, (pss_cons (ps_asg (pe_ix (ix_tupK (K := K) rfl) (pe_ix (ix_tupK (K := K) rfl) (pv 0) pe_int (fun _ _ => rfl)) (pv 2) (fun _ _ => rfl)) (pg_tup rfl (pgs_cons (pg_name (i := 3) sc_cost_of.nd rfl (Or.inl rfl)) (pgs_cons (pg_name (i := 4) sc_cost_of.nd rfl (Or.inl rfl)) (pgs_cons (pg_name (i := 5) sc_cost_of.nd rfl (Or.inl rfl)) pgs_nil)))))
    (pss_cons (ps_if (pt_cmpR o_isN (pv 5) pe_non (nomark _))
    (pss_one (ps_ret pe_non))
    pss_nil)
    (pss_cons (ps_for PassesOwn.never rfl (pi_tup (pv 4)) (pg_name (i := 6) sc_cost_of.nd rfl (Or.inl rfl))
    (pss_cons (ps_if (pt_cmpR o_isN (pe_ix (ix_tupK (K := K) rfl) (pv 1) (pv 6) (fun _ _ => rfl)) pe_non (nomark _))
      (pss_one (ps_ret pe_non))
      pss_nil)
      (pss_one (ps_aug (i := 5) sc_cost_of.nd rfl (Or.inl rfl) (pe_ix (ix_tupK (K := K) rfl) (pv 1) (pv 6) (fun _ _ => rfl)) ip_add))))
    (pss_one (ps_ret (pv 5)))))), ?_⟩
  walk_at "go"
  refine ⟨a, _, rfl, SqT.of ha, rfl, _, _, rfl, _, _, rfl, _, _, rfl, rfl, ?_⟩
  walk_at "go"
  rw [oV_dec]
  have hc0 : costOf T v = match v.price with
    | some p => acc T p v.slots
    | none => none := rfl
  cases hp : v.price with
  | none =>
    refine iteT ?_
    walk_at "go"
    rw [hp] at hc0
    rw [hc0] at q
    exact q
  | some p0 =>
    rw [hp] at hc0
    refine iteF ?_
    walk_at "go"
    refine ⟨b, rfl, ⟨_, SqT.of hb⟩, for_tup (xs := v.slots.map nV) (fun j σ H' => ∃ c x6, σ = [some (.ref f), some (.ref l), some (nV i), some (nV v.plug), some (.ref b), some (.int c), x6] ∧ H' = H ∧ costOf T v = acc T c (v.slots.drop j)) ⟨p0, none, rfl, rfl, hc0⟩ (fun i σ H' _ p => ?_) (fun j x σ H' hx p => ?_) (fun σ H' p => ?_)⟩
    · obtain ⟨c, x3, _, rfl, _⟩ := p
      exact SqT.of hb
    · obtain ⟨c, x3, rfl, rfl, hc⟩ := p
      obtain ⟨s0, hs0, rfl⟩ := nV_at hx
      rw [drop_at hs0] at hc
      have hlt := vok.slots s0 (List.mem_of_getElem? hs0)
      rw [← hT] at hlt
      have hg := oV_get hlt
      walk_at "go"
      rw [oV_dec]
      cases ht : tg T s0 with
      | none =>
        refine iteT ?_
        walk_at "go"
        rw [acc_cons_none ht] at hc
        rw [hc] at q
        exact q
      | some y =>
        refine iteF ?_
        have hg : (T.map oV)[s0]? = some (.int y) := by
          rw [hg, ht]
          rfl
        rw [acc_cons_some ht] at hc
        walk_at "go"
        exact ⟨_, _, rfl, rfl, hc⟩
    · obtain ⟨c, x3, rfl, rfl, hc⟩ := p
      walk_at "go"
      rw [drop_end] at hc
      rw [hc] at q
      exact q
/-- the sum of the parts' prices, by the list that the comprehension makes -/
theorem psum_take {F : List Vr} {T : List Nat} : ((T.map (prc F)).take T.length).sum = psum F T := by
  rw [List.take_of_length_le (by rw [List.length_map]; exact Nat.le_refl _)]
  rfl
theorem prc_at {F : List Vr} {m : Nat} {v : Vr} {p : Int} (h : F[m]? = some v) (hp : v.price = some p) : prc F m = p := by
  unfold prc
  rw [h]
  show v.price.getD 0 = p
  rw [hp]
  rfl
theorem ok_price_of (Fn : Fun K "price_of" "price_of" s_price_of f fd) (B : Bi mg) : FnOk P w K mg base CX0 1 f fd ["family", "tree"] spPriceOf := by
  refine Fn.ok sc_price_of (fun vs H Q E h => ?_) (fun cdv A outer s H vs Q E hr h => ?_)
  · obtain ⟨f, l, n, F, T, rfl, _⟩ := h
    rfl
  obtain ⟨f, l, n, F, T, rfl, hF, hl, hT, hz, q⟩ := h
  obtain ⟨r, va, xs, h1, h2, h3⟩ := hF
  refine ⟨_, (pss_one (ps_ret (pe_callB (c_sumK (K := K) rfl rfl) (by rfl) B.sum PyProof.Rows.boot_sum (pa_cons (pe_lc (own := [("number", 2)]) (g := gName 2) rfl sc_price_of.nd (pi_tup (pv 1)) (blkOk_by (N := ["family", "tree", "number"]) (sc := defScope s_price_of) (by decide +kernel)) (fun _ _ _ _ _ => pg_name (i := 2) sc_price_of.nd rfl (Or.inl rfl)) (fun _ _ _ _ _ => pts_nil) (fun _ _ _ _ _ => (pe_ix (ix_tupK (K := K) rfl) (pe_ix (ix_tupK (K := K) rfl) (pe_ix (ix_tupK (K := K) rfl) (pv 0) pe_int (fun _ _ => rfl)) (pv 2) (fun _ _ => rfl)) pe_int (fun _ _ => rfl)))) pa_nil)))), ?_⟩
  walk_at "go"
  refine ⟨l, rfl, ⟨_, SqT.of hl⟩, fun d hd => lc_tup (xs := T.map nV) (fun i H' => Ex H H' ∧ H' d = some (.lst (((T.map (prc F)).take i).map V.int))) ⟨Evl.Ex.new hd, upd_same⟩ (fun i H' _ p => SqT.of (p.1 l _ hl)) (fun i x H' hx p => ?_) (fun H' p => ?_)⟩
  · obtain ⟨e, hD⟩ := p
    obtain ⟨m, hm, rfl⟩ := nV_at hx
    obtain ⟨v, pr, hv, hp⟩ := hT m (List.mem_of_getElem? hm)
    obtain ⟨x, hx2, a, b, rfl, ha, hb⟩ := pair_at h3 hv
    have h1 := e _ _ h1
    have h2 := e _ _ h2
    have ha := e _ _ ha
    have hi := (List.getElem?_eq_some_iff.mp hm).1
    walk_at "go"
    refine ⟨rfl, ?_⟩
    walk_at "go"
    refine iteT ?_
    walk_at "go"
    refine ⟨_, hD, ?_, Evl.Ex.mut e hd, ?_⟩
    · rw [List.length_map, List.length_take]
      exact Nat.lt_of_le_of_lt (Nat.min_le_left _ _) (small1000 (by omega))
    · have hx3 : (T.map (prc F))[i]? = some pr := by
        rw [List.getElem?_map, hm]
        exact congrArg some (prc_at hv hp)
      rw [upd_same, take_at hx3, List.map_append, hp]
      rfl
  · obtain ⟨e, hD⟩ := p
    walk_at "go"
    refine ⟨d, _, rfl, SqL.of hD, ?_⟩
    rw [List.length_map, psum_take]
    exact q H' e
theorem ok_priced (Fn : Fun K "_law_priced" "_law_priced" s_priced f fd) (B : Bi mg) : FnOk P w K mg base CX0 1 f fd ["_law_family_here", "_law_tree_here"] spPriceOf := by
  refine Fn.ok sc_priced (fun vs H Q E h => ?_) (fun cdv A outer s H vs Q E hr h => ?_)
  · obtain ⟨f, l, n, F, T, rfl, _⟩ := h
    rfl
  obtain ⟨f, l, n, F, T, rfl, hF, hl, hT, hz, q⟩ := h
  obtain ⟨r, va, xs, h1, h2, h3⟩ := hF
  refine ⟨_, (pss_one (ps_ret (pe_callB (c_sumK (K := K) rfl rfl) (by rfl) B.sum PyProof.Rows.boot_sum (pa_cons (pe_lc (own := [("_law_number", 2)]) (g := gName 2) rfl sc_priced.nd (pi_tup (pv 1)) (blkOk_by (N := ["_law_family_here", "_law_tree_here", "_law_number"]) (sc := defScope s_priced) (by decide +kernel)) (fun _ _ _ _ _ => pg_name (i := 2) sc_priced.nd rfl (Or.inl rfl)) (fun _ _ _ _ _ => pts_nil) (fun _ _ _ _ _ => (pe_ix (ix_tupK (K := K) rfl) (pe_ix (ix_tupK (K := K) rfl) (pe_ix (ix_tupK (K := K) rfl) (pv 0) pe_int (fun _ _ => rfl)) (pv 2) (fun _ _ => rfl)) pe_int (fun _ _ => rfl)))) pa_nil)))), ?_⟩
  walk_at "go"
  refine ⟨l, rfl, ⟨_, SqT.of hl⟩, fun d hd => lc_tup (xs := T.map nV) (fun i H' => Ex H H' ∧ H' d = some (.lst (((T.map (prc F)).take i).map V.int))) ⟨Evl.Ex.new hd, upd_same⟩ (fun i H' _ p => SqT.of (p.1 l _ hl)) (fun i x H' hx p => ?_) (fun H' p => ?_)⟩
  · obtain ⟨e, hD⟩ := p
    obtain ⟨m, hm, rfl⟩ := nV_at hx
    obtain ⟨v, pr, hv, hp⟩ := hT m (List.mem_of_getElem? hm)
    obtain ⟨x, hx2, a, b, rfl, ha, hb⟩ := pair_at h3 hv
    have h1 := e _ _ h1
    have h2 := e _ _ h2
    have ha := e _ _ ha
    have hi := (List.getElem?_eq_some_iff.mp hm).1
    walk_at "go"
    refine ⟨rfl, ?_⟩
    walk_at "go"
    refine iteT ?_
    walk_at "go"
    refine ⟨_, hD, ?_, Evl.Ex.mut e hd, ?_⟩
    · rw [List.length_map, List.length_take]
      exact Nat.lt_of_le_of_lt (Nat.min_le_left _ _) (small1000 (by omega))
    · have hx3 : (T.map (prc F))[i]? = some pr := by
        rw [List.getElem?_map, hm]
        exact congrArg some (prc_at hv hp)
      rw [upd_same, take_at hx3, List.map_append, hp]
      rfl
  · obtain ⟨e, hD⟩ := p
    walk_at "go"
    refine ⟨d, _, rfl, SqL.of hD, ?_⟩
    rw [List.length_map, psum_take]
    exact q H' e
theorem ok_judged (Fn : Fun K "_law_judged" "_law_judged" s_judged f fd) (C_cost : Cal P w K mg base "_law_cost" ["_law_variant", "_law_table"] 1 spCost) : FnOk P w K mg base CX0 2 f fd ["_law_family_here", "_law_table", "_law_sign"] spJudged := by
  refine Fn.ok sc_judged (fun vs H Q E h => ?_) (fun cdv A outer s H vs Q E hr h => ?_)
  · obtain ⟨f, l, n, F, T, sg, rfl, _⟩ := h
    rfl
  obtain ⟨f, l, n, F, T, sg, rfl, hF, ok, hl, hT, hs, q⟩ := h
  obtain ⟨r, va, xs, h1, h2, h3⟩ := hF
  have hsg : -(2 ^ 64) < sg ∧ sg < 2 ^ 64 := by rcases hs with rfl | rfl <;> exact ⟨by decide, by decide⟩
  refine ⟨_, (pss_cons (ps_for PassesOwn.never rfl (pi_tup (pe_ix (ix_tupK (K := K) rfl) (pv 0) pe_int (fun _ _ => rfl))) (pg_name (i := 3) sc_judged.nd rfl (Or.inl rfl))
    (pss_cons (ps_set (i := 4) sc_judged.nd rfl (Or.inl rfl) (pe_cal C_cost hr (by decide) (by rfl) (pa_cons (pv 3) (pa_cons (pv 1) pa_nil))))
      (pss_one (ps_if (PW.pt (pw_and (pt_cmpR o_notN (pv 4) pe_non (nomark _)) (pw_and1 (PW.pt (pw_or (pt_cmpR o_isN (pe_ix (ix_tupK (K := K) rfl) (pv 1) (pe_ix (ix_tupK (K := K) rfl) (pv 3) pe_int (fun _ _ => rfl)) (fun _ _ => rfl)) pe_non (nomark _)) (pw_or1 (pt_cmpR op_lt (pe_op op_mul (pe_op op_sub (pv 4) (pe_ix (ix_tupK (K := K) rfl) (pv 1) (pe_ix (ix_tupK (K := K) rfl) (pv 3) pe_int (fun _ _ => rfl)) (fun _ _ => rfl))) (pv 2)) pe_int (nomark _))))))))
      (pss_one (ps_ret pe_bl))
      pss_nil))))
    (pss_one (ps_ret pe_bl))), ?_⟩
  walk_at "go"
  refine ⟨va, rfl, ⟨_, SqT.of h2⟩, for_tup (xs := xs) (fun i σ H' => ∃ x3 x4, σ = [some (.ref f), some (.ref l), some (.int sg), x3, x4] ∧ H' = H ∧ ∀ (j : Nat) (v : Vr), j < i → F[j]? = some v → Pass T sg v) ⟨none, none, rfl, rfl, fun j v hj => absurd hj (Nat.not_lt_zero j)⟩ (fun i σ H' _ p => ?_) (fun i x σ H' hx p => ?_) (fun σ H' p => ?_)⟩
  · obtain ⟨x3, x4, _, rfl, _⟩ := p
    exact SqT.of h2
  · obtain ⟨x3, x4, rfl, rfl, hp⟩ := p
    obtain ⟨v, hv, a, b, rfl, ha, hb⟩ := pair_get h3 hx
    have vok := ok.all v (List.mem_of_getElem? hv)
    have hg := oV_get (T := T) (s := v.plug) (by rw [hT]; exact vok.plug)
    walk_at "go"
    refine ⟨.ref a, l, v, T, rfl, ⟨a, b, rfl, ha, hb⟩, .inr hl, fun s hs => by rw [hT]; exact vok.slots s hs, ?_⟩
    walk_at "go"
    rw [oV_dec]
    cases hc : costOf T v with
    | none =>
      refine iteF ?_
      refine iteF ?_
      walk_at "go"
      exact ⟨_, _, rfl, rfl, pass_more hp hv (pass_none hc)⟩
    | some c =>
      refine iteT ?_
      rw [oV_some]
      walk_at "go"
      rw [oV_dec]
      cases hx : tg T v.plug with
      | none =>
        refine iteT ?_
        refine iteT ?_
        walk_at "go"
        exact q false (judged_not hv (pass_no hc hx))
      | some y =>
        refine iteF ?_
        have hg : (T.map oV)[v.plug]? = some (.int y) := by
          rw [hg, hx]
          rfl
        walk_at "go"
        refine ite2 (fun e => ?_) (fun e => ?_)
        · walk_at "go"
          exact q false (judged_not hv (pass_less hc hx (of_decide_eq_true e)))
        · walk_at "go"
          have e : ¬ (c - y) * sg < 0 := fun z => e (decide_eq_true z)
          exact ⟨_, _, rfl, rfl, pass_more hp hv (pass_some hc hx (by omega))⟩
  · obtain ⟨x3, x4, rfl, rfl, hp⟩ := p
    walk_at "go"
    refine q true ⟨fun _ => judged_all (by rw [← pair_len h3]; exact Nat.le_refl _) hp, fun _ => rfl⟩
theorem ok_is_floor (Fn : Fun K "is_floor" "is_floor" s_is_floor f fd) (B : Bi mg) (C_cost_of : Cal P w K mg base "cost_of" ["family", "table", "number"] 1 spCostOf) : FnOk P w K mg base CX0 2 f fd ["family", "table"] (spFloor 1) := by
  refine Fn.ok sc_is_floor (fun vs H Q E h => ?_) (fun cdv A outer s H vs Q E hr h => ?_)
  · obtain ⟨f, l, n, F, T, rfl, _⟩ := h
    rfl
  obtain ⟨f, l, n, F, T, rfl, hF, ok, hl, hT, q⟩ := h
  obtain ⟨r, va, xs, h1, h2, h3⟩ := id hF
  refine ⟨_, (pss_cons (ps_for PassesOwn.never rfl (pi_en (by rfl) B.enumerate (pe_ix (ix_tupK (K := K) rfl) (pv 0) pe_int (fun _ _ => rfl))) (pg_tup rfl (pgs_cons (pg_name (i := 2) sc_is_floor.nd rfl (Or.inl rfl)) (pgs_cons (pg_name (i := 3) sc_is_floor.nd rfl (Or.inl rfl)) pgs_nil)))
    (pss_cons (ps_set (i := 4) sc_is_floor.nd rfl (Or.inl rfl) (pe_cal C_cost_of hr (by decide) (by rfl) (pa_cons (pv 0) (pa_cons (pv 1) (pa_cons (pv 2) pa_nil)))))
      (pss_cons (ps_set (i := 5) sc_is_floor.nd rfl (Or.inl rfl) (pe_ix (ix_tupK (K := K) rfl) (pv 1) (pe_ix (ix_tupK (K := K) rfl) (pv 3) pe_int (fun _ _ => rfl)) (fun _ _ => rfl)))
      (pss_one (ps_if (PW.pt (pw_and (pt_cmpR o_notN (pv 4) pe_non (nomark _)) (pw_and1 (PW.pt (pw_or (pt_cmpR o_isN (pv 5) pe_non (nomark _)) (pw_or1 (pt_cmpR op_gt (pv 5) (pv 4) (nomark _))))))))
      (pss_one (ps_ret pe_bl))
      pss_nil)))))
    (pss_one (ps_ret pe_bl))), ?_⟩
  walk_at "go"
  refine ⟨va, xs, rfl, SqT.of h2, for_en (xs := xs) (fun i σ H' => ∃ x2 x3 x4 x5, σ = [some (.ref f), some (.ref l), x2, x3, x4, x5] ∧ Ex H H' ∧ ∀ (j : Nat) (v : Vr), j < i → F[j]? = some v → Pass T 1 v) ⟨none, none, none, none, rfl, Evl.Ex.refl H, fun j v hj => absurd hj (Nat.not_lt_zero j)⟩ (fun i σ H' p => ?_) (fun i x t σ H' hx p ht => ?_) (fun σ H' p => ?_)⟩
  · obtain ⟨x2, x3, x4, x5, _, e, _⟩ := p
    exact SqT.of (e _ _ h2)
  · obtain ⟨x2, x3, x4, x5, rfl, e, hp⟩ := p
    obtain ⟨v, hv, a, b, rfl, ha, hb⟩ := pair_get h3 hx
    have vok := ok.all v (List.mem_of_getElem? hv)
    have hg := oV_get (T := T) (s := v.plug) (by rw [hT]; exact vok.plug)
    have e1 : Ex H (upd H' t (.tup [.int ((i : Nat) : Int), .ref a])) := e.trans (Evl.Ex.new ht)
    refine ⟨t, _, rfl, SqT.of upd_same, rfl, _, _, rfl, _, _, rfl, rfl, ?_⟩
    have ha := e1 _ _ ha
    have hl1 := e1 _ _ hl
    walk_at "go"
    refine ⟨f, l, n, F, T, i, v, rfl, hF.mono (Ex.te e1), ok, hl1, hT, hv, ?_⟩
    walk_at "go"
    rw [oV_dec]
    cases hc : costOf T v with
    | none =>
      refine iteF ?_
      refine iteF ?_
      walk_at "go"
      exact ⟨_, _, _, _, rfl, e1, pass_more hp hv (pass_none hc)⟩
    | some c =>
      refine iteT ?_
      rw [oV_some]
      walk_at "go"
      rw [oV_dec]
      cases hx : tg T v.plug with
      | none =>
        refine iteT ?_
        refine iteT ?_
        walk_at "go"
        exact q false _ e1 (judged_not hv (pass_no hc hx))
      | some y =>
        refine iteF ?_
        rw [oV_some]
        walk_at "go"
        refine ite2 (fun e => ?_) (fun e => ?_)
        · walk_at "go"
          have e := of_decide_eq_true e
          exact q false _ e1 (judged_not hv (pass_less hc hx (by omega)))
        · walk_at "go"
          have e : ¬ c < y := fun z => e (decide_eq_true z)
          exact ⟨_, _, _, _, rfl, e1, pass_more hp hv (pass_some hc hx (by omega))⟩
  · obtain ⟨x2, x3, x4, x5, rfl, e, hp⟩ := p
    walk_at "go"
    refine q true H' e ⟨fun _ => judged_all (by rw [← pair_len h3]; exact Nat.le_refl _) hp, fun _ => rfl⟩
theorem ok_is_ceiling (Fn : Fun K "is_ceiling" "is_ceiling" s_is_ceiling f fd) (B : Bi mg) (C_cost_of : Cal P w K mg base "cost_of" ["family", "table", "number"] 1 spCostOf) : FnOk P w K mg base CX0 2 f fd ["family", "table"] (spFloor (-1)) := by
  refine Fn.ok sc_is_ceiling (fun vs H Q E h => ?_) (fun cdv A outer s H vs Q E hr h => ?_)
  · obtain ⟨f, l, n, F, T, rfl, _⟩ := h
    rfl
  obtain ⟨f, l, n, F, T, rfl, hF, ok, hl, hT, q⟩ := h
  obtain ⟨r, va, xs, h1, h2, h3⟩ := id hF
  refine ⟨_, (pss_cons (ps_for PassesOwn.never rfl (pi_en (by rfl) B.enumerate (pe_ix (ix_tupK (K := K) rfl) (pv 0) pe_int (fun _ _ => rfl))) (pg_tup rfl (pgs_cons (pg_name (i := 2) sc_is_ceiling.nd rfl (Or.inl rfl)) (pgs_cons (pg_name (i := 3) sc_is_ceiling.nd rfl (Or.inl rfl)) pgs_nil)))
    (pss_cons (ps_set (i := 4) sc_is_ceiling.nd rfl (Or.inl rfl) (pe_cal C_cost_of hr (by decide) (by rfl) (pa_cons (pv 0) (pa_cons (pv 1) (pa_cons (pv 2) pa_nil)))))
      (pss_cons (ps_set (i := 5) sc_is_ceiling.nd rfl (Or.inl rfl) (pe_ix (ix_tupK (K := K) rfl) (pv 1) (pe_ix (ix_tupK (K := K) rfl) (pv 3) pe_int (fun _ _ => rfl)) (fun _ _ => rfl)))
      (pss_one (ps_if (PW.pt (pw_and (pt_cmpR o_notN (pv 4) pe_non (nomark _)) (pw_and1 (PW.pt (pw_or (pt_cmpR o_isN (pv 5) pe_non (nomark _)) (pw_or1 (pt_cmpR op_lt (pv 5) (pv 4) (nomark _))))))))
      (pss_one (ps_ret pe_bl))
      pss_nil)))))
    (pss_one (ps_ret pe_bl))), ?_⟩
  walk_at "go"
  refine ⟨va, xs, rfl, SqT.of h2, for_en (xs := xs) (fun i σ H' => ∃ x2 x3 x4 x5, σ = [some (.ref f), some (.ref l), x2, x3, x4, x5] ∧ Ex H H' ∧ ∀ (j : Nat) (v : Vr), j < i → F[j]? = some v → Pass T (-1) v) ⟨none, none, none, none, rfl, Evl.Ex.refl H, fun j v hj => absurd hj (Nat.not_lt_zero j)⟩ (fun i σ H' p => ?_) (fun i x t σ H' hx p ht => ?_) (fun σ H' p => ?_)⟩
  · obtain ⟨x2, x3, x4, x5, _, e, _⟩ := p
    exact SqT.of (e _ _ h2)
  · obtain ⟨x2, x3, x4, x5, rfl, e, hp⟩ := p
    obtain ⟨v, hv, a, b, rfl, ha, hb⟩ := pair_get h3 hx
    have vok := ok.all v (List.mem_of_getElem? hv)
    have hg := oV_get (T := T) (s := v.plug) (by rw [hT]; exact vok.plug)
    have e1 : Ex H (upd H' t (.tup [.int ((i : Nat) : Int), .ref a])) := e.trans (Evl.Ex.new ht)
    refine ⟨t, _, rfl, SqT.of upd_same, rfl, _, _, rfl, _, _, rfl, rfl, ?_⟩
    have ha := e1 _ _ ha
    have hl1 := e1 _ _ hl
    walk_at "go"
    refine ⟨f, l, n, F, T, i, v, rfl, hF.mono (Ex.te e1), ok, hl1, hT, hv, ?_⟩
    walk_at "go"
    rw [oV_dec]
    cases hc : costOf T v with
    | none =>
      refine iteF ?_
      refine iteF ?_
      walk_at "go"
      exact ⟨_, _, _, _, rfl, e1, pass_more hp hv (pass_none hc)⟩
    | some c =>
      refine iteT ?_
      rw [oV_some]
      walk_at "go"
      rw [oV_dec]
      cases hx : tg T v.plug with
      | none =>
        refine iteT ?_
        refine iteT ?_
        walk_at "go"
        exact q false _ e1 (judged_not hv (pass_no hc hx))
      | some y =>
        refine iteF ?_
        rw [oV_some]
        walk_at "go"
        refine ite2 (fun e => ?_) (fun e => ?_)
        · walk_at "go"
          have e := of_decide_eq_true e
          exact q false _ e1 (judged_not hv (pass_less hc hx (by omega)))
        · walk_at "go"
          have e : ¬ y < c := fun z => e (decide_eq_true z)
          exact ⟨_, _, _, _, rfl, e1, pass_more hp hv (pass_some hc hx (by omega))⟩
  · obtain ⟨x2, x3, x4, x5, rfl, e, hp⟩ := p
    walk_at "go"
    refine q true H' e ⟨fun _ => judged_all (by rw [← pair_len h3]; exact Nat.le_refl _) hp, fun _ => rfl⟩
theorem ok_sizes (Fn : Fun K "_law_sizes" "_law_sizes" s_sizes f fd) (B : Bi mg) (C_size : Cal P w K mg base "_law_size" ["_law_variant", "_law_sizes_here"] 1 spSize) : FnOk P w K mg base CX0 2 f fd ["_law_family_here"] spSizes := by
  refine Fn.ok sc_sizes (fun vs H Q E h => ?_) (fun cdv A outer s H vs Q E hr h => ?_)
  · obtain ⟨f, n, F, rfl, _⟩ := h
    rfl
  obtain ⟨f, n, F, rfl, hF, ok, q⟩ := h
  obtain ⟨r, va, xs, h1, h2, h3⟩ := id hF
  have hn := ok.top
  refine ⟨_, (pss_cons (ps_setLc (i := 1) (own := [("_law_state", 6)]) (g := gName 6) rfl sc_sizes.nd rfl rfl (sw_true rfl rfl rfl (by decide +kernel)) (pi_range1 (by rfl) B.range (pa_cons (pe_ix (ix_tupK (K := K) rfl) (pv 0) pe_int (fun _ _ => rfl)) pa_nil)) (blkOk_by (N := ["_law_family_here", "_law_sizes_here", "_law_turn", "_law_changed", "_law_variant", "_law_size_here", "_law_state"]) (sc := defScope s_sizes) (by decide +kernel)) (fun _ _ _ _ _ => pg_name (i := 6) sc_sizes.nd rfl (Or.inl rfl)) (fun _ _ _ _ _ => pts_nil) (fun _ _ _ _ _ => pe_non))
    (pss_cons (ps_for PassesOwn.never rfl (pi_range1 (by rfl) B.range (pa_cons (pe_op op_add (pe_ix (ix_tupK (K := K) rfl) (pv 0) pe_int (fun _ _ => rfl)) pe_int) pa_nil)) (pg_name (i := 2) sc_sizes.nd rfl (Or.inl rfl))
    (pss_cons (ps_set (i := 3) sc_sizes.nd rfl (Or.inl rfl) pe_bl)
      (pss_cons (ps_for PassesOwn.never rfl (pi_tup (pe_ix (ix_tupK (K := K) rfl) (pv 0) pe_int (fun _ _ => rfl))) (pg_name (i := 4) sc_sizes.nd rfl (Or.inl rfl))
      (pss_cons (ps_set (i := 5) sc_sizes.nd rfl (Or.inl rfl) (pe_cal C_size hr (by decide) (by rfl) (pa_cons (pv 4) (pa_cons (pv 1) pa_nil))))
        (pss_one (ps_if (PW.pt (pw_and (pt_cmpR o_notN (pv 5) pe_non (nomark _)) (pw_and1 (PW.pt (pw_or (pt_cmpR o_isN (pe_ix (ix_listK (K := K) rfl) (pv 1) (pe_ix (ix_tupK (K := K) rfl) (pv 4) pe_int (fun _ _ => rfl)) (fun _ _ => rfl)) pe_non (nomark _)) (pw_or1 (pt_cmpR op_lt (pv 5) (pe_ix (ix_listK (K := K) rfl) (pv 1) (pe_ix (ix_tupK (K := K) rfl) (pv 4) pe_int (fun _ _ => rfl)) (fun _ _ => rfl)) (nomark _))))))))
        (pss_cons (ps_asg (pv 5) (pg_sub (pv 1) (pe_ix (ix_tupK (K := K) rfl) (pv 4) pe_int (fun _ _ => rfl)) set_list))
          (pss_one (ps_set (i := 3) sc_sizes.nd rfl (Or.inl rfl) pe_bl)))
        pss_nil))))
      (pss_one (ps_if (pt_not (p_truth (pv 3) (by intro _; rfl)))
      (pss_one ps_break)
      pss_nil)))))
    (pss_one (ps_ret (pv 1))))), ?_⟩
  walk_at "go"
  refine ⟨(n : Int), rfl, by omega, by omega, fun l hl => lc_range (lo := 0) (n := n) (fun i H' => Ex H H' ∧ H' l = some (lstO (List.replicate i none))) ⟨Evl.Ex.new hl, upd_same⟩ (fun i H' hi p => ?_) (fun H' p => ?_)⟩
  · obtain ⟨e, hD⟩ := p
    walk_at "go"
    refine ⟨rfl, ?_⟩
    walk_at "go"
    refine iteT ?_
    walk_at "go"
    refine ⟨_, hD, ?_, Evl.Ex.mut e hl, ?_⟩
    · rw [List.length_map, List.length_replicate]
      exact small1000 (by omega)
    · rw [upd_same, List.replicate_succ']
      unfold lstO
      rw [List.map_append]
      rfl
  obtain ⟨e0, hl0⟩ := p
  have h1' := e0 _ _ h1
  walk_at "go"
  refine ⟨(n : Int) + 1, rfl, by omega, by omega, for_range (lo := 0) (n := n + 1) (fun j σ H' => ∃ x2 x3 x4 x5 x6 S, σ = [some (.ref f), some (.ref l), x2, x3, x4, x5, x6] ∧ Ex H H' ∧ H' l = some (lstO S) ∧ Wk n F j S)
    ⟨_, _, _, _, _, _, rfl, e0, hl0, wk_start n F⟩ (fun j σ H' hj p => ?_) (fun σ H' p => ?_)⟩
  · obtain ⟨x2, x3, x4, x5, x6, S, rfl, e, hS, wk⟩ := p
    have h1 := e _ _ h1
    have h2 := e _ _ h2
    walk_at "go"
    refine ⟨va, rfl, ⟨_, SqT.of h2⟩, for_tup (xs := xs) (fun i σ H' => ∃ x2 x4 x5 p, σ = [some (.ref f), some (.ref l), x2, some (.bl p.2.isSome), x4, x5, x6] ∧ Ex H H' ∧ H' l = some (lstO p.1) ∧ Rd n F S (F.take i) p)
      ⟨_, _, _, (S, none), rfl, e, hS, rd_start wk.sane⟩ (fun i σ H' _ p => ?_) (fun i x σ H' hx p => ?_) (fun σ H' p => ?_)⟩
    · obtain ⟨_, _, _, _, _, e, _⟩ := p
      exact SqT.of (e _ _ (by assumption))
    · obtain ⟨x2, x4, x5, p, rfl, e, hp, rd⟩ := p
      obtain ⟨v, hv, a, b, rfl, ha, hb⟩ := pair_get h3 hx
      have vm := List.mem_of_getElem? hv
      have vok := ok.all v vm
      have ha := e _ _ ha
      have hb := e _ _ hb
      have rn := rd_step rd vm vok.plug
      rw [← take_at hv] at rn
      have hlt : v.plug < p.1.length := by
        rw [rd.sane.len]
        exact vok.plug
      have hg := oV_get hlt
      walk_at "go"
      refine ⟨.ref a, l, v, p.1, rfl, ⟨a, b, rfl, ha, hb⟩, hp, fun s hs => by rw [rd.sane.len]; exact vok.slots s hs, ?_⟩
      walk_at "go"
      rw [oV_dec]
      have take : ∀ k, sizeOf p.1 v = some k → Drop p.1 v.plug k → stp p v = (p.1.set v.plug (some k), some (lower k p.2)) := fun k h d => stp_yes h d
      cases hc : sizeOf p.1 v with
      | none =>
        rw [stp_none hc] at rn
        refine iteF ?_
        refine iteF ?_
        walk_at "go"
        exact ⟨_, _, _, p, rfl, e, hp, rn⟩
      | some k =>
        refine iteT ?_
        rw [oV_some]
        walk_at "go"
        rw [oV_dec]
        have store : stp p v = (p.1.set v.plug (some k), some (lower k p.2)) → Rd n F S (F.take (i + 1)) (p.1.set v.plug (some k), some (lower k p.2)) := fun h => h ▸ rn
        have after : (upd H' l (.lst ((p.1.map oV).set v.plug (.int k)))) l = some (lstO (p.1.set v.plug (some k))) := by
          rw [upd_same]
          unfold lstO
          rw [List.map_set]
          rfl
        have hixn : ixN (p.1.map oV).length ((v.plug : Nat) : Int) = some v.plug := ix_nat (by rw [List.length_map]; exact hlt)
        cases hx : tg p.1 v.plug with
        | none =>
          refine iteT ?_
          refine iteT ?_
          walk_at "go"
          exact ⟨_, _, _, (p.1.set v.plug (some k), some (lower k p.2)), rfl, Evl.Ex.mut e hl, after, store (stp_yes hc (fun m em => by rw [hx] at em; cases em))⟩
        | some y =>
          refine iteF ?_
          have hg : (p.1.map oV)[v.plug]? = some (.int y) := by
            rw [hg, hx]
            rfl
          walk_at "go"
          refine ite2 (fun z => ?_) (fun z => ?_)
          · walk_at "go"
            have z := of_decide_eq_true z
            exact ⟨_, _, _, (p.1.set v.plug (some k), some (lower k p.2)), rfl, Evl.Ex.mut e hl, after, store (stp_yes hc (fun m em => by rw [hx] at em; cases em; exact z))⟩
          · walk_at "go"
            have z : ¬ k < y := fun u => z (decide_eq_true u)
            rw [stp_no hc (fun d => z (d y hx))] at rn
            exact ⟨_, _, _, p, rfl, e, hp, rn⟩
    · obtain ⟨x2, x4, x5, p, rfl, e, hp, rd⟩ := p
      rw [pair_len h3, List.take_length] at rd
      walk_at "go"
      cases hc : p.2 with
      | none =>
        refine iteT ?_
        walk_at "go"
        exact q l p.1 H' e hl hp (wk_done wk rd hc)
      | some c =>
        refine iteF ?_
        walk_at "go"
        exact ⟨_, _, _, _, _, p.1, rfl, e, hp, wk_next wk rd hc⟩
  · obtain ⟨x2, x3, x4, x5, x6, S, rfl, e, hS, wk⟩ := p
    exact (wk_stop wk).elim
theorem ok_reach (Fn : Fun K "_law_reach" "_law_reach" s_reach f fd) (B : Bi mg) : FnOk P w K mg base CX0 1 f fd ["_law_counts_here", "_law_limit"] spReach := by
  refine Fn.ok sc_reach (fun vs H Q E h => ?_) (fun cdv A outer s H vs Q E hr h => ?_)
  · obtain ⟨c, n, rfl, _⟩ := h
    rfl
  obtain ⟨c, n, rfl, ⟨rs, hc, hl, hrs⟩, q⟩ := h
  refine ⟨_, (pss_cons (ps_set (i := 2) sc_reach.nd rfl (Or.inl rfl) pe_int)
    (pss_cons (ps_for PassesOwn.never rfl (pi_range2 (by rfl) B.range (pa_cons pe_int (pa_cons (pe_callB (c_lenK (K := K) rfl) (by rfl) B.len PySem.boot_len (pa_cons (pv 0) pa_nil)) pa_nil))) (pg_name (i := 3) sc_reach.nd rfl (Or.inl rfl))
    (pss_cons (ps_set (i := 2) sc_reach.nd rfl (Or.inl rfl) (pe_op op_add (pv 2) (pe_callB (c_sumK (K := K) rfl rfl) (by rfl) B.sum PyProof.Rows.boot_sum (pa_cons (pe_ix (ix_listK (K := K) rfl) (pv 0) (pv 3) (fun _ _ => rfl)) pa_nil))))
      (pss_one (ps_if (pt_cmpR op_gt (pv 2) (pv 1) (nomark _))
      (pss_one (ps_ret (pe_op op_sub (pv 3) pe_int)))
      pss_nil))))
    (pss_one (ps_ret (pe_op op_sub (pe_callB (c_lenK (K := K) rfl) (by rfl) B.len PySem.boot_len (pa_cons (pv 0) pa_nil)) pe_int))))), ?_⟩
  walk_at "go"
  refine ⟨1, 6, by rw [List.length_map, hl]; rfl, ⟨by decide, by decide, by decide, by decide⟩, for_range (lo := 1) (n := 5) (fun i σ H' => ∃ k x3, σ = [some (.ref c), some (.int 60), some (.int k), x3] ∧ H' = H) ⟨_, _, rfl, rfl⟩ (fun i σ H' hi p => ?_) (fun σ H' p => ?_)⟩
  · obtain ⟨k, x3, rfl, rfl⟩ := p
    have hi6 : 1 + i < rs.length := by omega
    obtain ⟨row, hrow, _, _⟩ := hrs (1 + i) _ (List.getElem?_eq_getElem hi6)
    have hx : atI (rs.map V.ref) (1 + (i : Int)) = some (.ref rs[1 + i]) := at_of (j := 1 + i) (by omega) (by rw [List.getElem?_map, List.getElem?_eq_getElem hi6]; rfl)
    walk_at "go"
    refine ⟨_, row, rfl, SqL.of hrow, ?_⟩
    walk_at "go"
    refine ite2 (fun e => ?_) (fun e => ?_)
    · walk_at "go"
      have z := q i H' (Evl.Ex.refl H') (by omega)
      have e : (1 : Int) + (i : Int) - 1 = (i : Int) := by omega
      show Q (.int ((1 : Int) + (i : Int) - 1)) H'
      rw [e]
      exact z
    · walk_at "go"
      exact ⟨_, _, rfl, rfl⟩
  · obtain ⟨k, x3, rfl, rfl⟩ := p
    walk_at "go"
    have z := q 5 H' (Evl.Ex.refl H') (by omega)
    rw [List.length_map, hl]
    exact z
/-- a part that fits: its plug, its size -/
def Fits (F : List Vr) (S : List (Option Int)) (g : Nat) (x lim : Int) (k : Nat) : Prop := ∃ v z, F[k]? = some v ∧ v.plug = g ∧ sizeOf S v = some z ∧ (z = x ∨ z ≤ lim)
/-- the tree so far: what waits, its size, what stands -/
structure Grow (F : List Vr) (S : List (Option Int)) (s : Nat) (M : Int) (j : Nat) (pend : List Nat) (need : Int) (T : List Nat) : Prop where
  sum : acc S 0 pend = some need
  room : (j : Int) + need ≤ M
  len : T.length = j
  tree : ∀ rest, Forest F pend rest → Forest F [s] (T ++ rest)
theorem grow_next {F : List Vr} {S : List (Option Int)} {s g k : Nat} {M need x room : Int} {j : Nat} {r T : List Nat} (h : Grow F S s M j (g :: r) need T) (hx : tg S g = some x) (hM : room ≤ M) (f : Fits F S g x (room - (j + (need - x))) k) :
    ∃ v z, F[k]? = some v ∧ sizeOf S v = some z ∧ Grow F S s M (j + 1) (v.slots ++ r) (need - x + z - 1) (T ++ [k]) := by
  obtain ⟨v, z, hv, hp, hz, hl⟩ := f
  obtain ⟨⟨p, hpr⟩, ha⟩ := size_inv hz
  have h1 := h.sum
  rw [acc_cons_some hx] at h1
  have h2 := acc_base h1
  have h3 := acc_base ha
  have h4 := acc_shift (z - 1) h2
  have hr := h.room
  refine ⟨v, z, hv, hz, ?_, ?_, ?_, fun rest hf => ?_⟩
  · refine acc_append h3 ?_
    rw [show (0 : Int) + (z - 1) = z - 1 by omega] at h4
    rw [h4]
    exact congrArg some (by omega)
  · rw [show ((j + 1 : Nat) : Int) = (j : Int) + 1 by omega]
    rcases hl with rfl | hl <;> omega
  · rw [List.length_append, h.len]
    rfl
  · rw [List.append_assoc]
    exact h.tree _ (Forest.cons hv hp hpr hf)
theorem grow_end {F : List Vr} {S : List (Option Int)} {s : Nat} {M need : Int} {T : List Nat} (h : ∃ j, Grow F S s M j [] need T) : Forest F [s] T := by
  obtain ⟨j, h⟩ := h
  have q := h.tree [] .nil
  rw [List.append_nil] at q
  exact q
theorem ok_tree (Fn : Fun K "_law_tree" "_law_tree" s_tree f fd) (B : Bi mg) (C_draw : Cal P w K mg base "_law_draw" ["_law_tape_here", "_law_menu"] 1 spDraw) (C_size : Cal P w K mg base "_law_size" ["_law_variant", "_law_sizes_here"] 1 spSize) :
    FnOk P w K mg base CX0 2 f fd ["_law_tape_here", "_law_family_here", "_law_sizes_here", "_law_state", "_law_room"] spTree := by
  refine Fn.ok sc_tree (fun vs H Q E h => ?_) (fun cdv A outer s_0 H vs Q E hr h => ?_)
  · obtain ⟨t, f, l, n, F, S, s, room, rfl, _⟩ := h
    rfl
  obtain ⟨t, f, l, n, F, S, s, room, rfl, hT, hlt, hF, ok, hl, hS, ⟨m, hm, hm100⟩, hr0, hr40, q⟩ := h
  obtain ⟨r0, va, xs, h1, h2, h3⟩ := id hF
  have hsl : s < S.length := tg_lt hm
  have hm1 := hS.pos s m hm
  have hg0 : (S.map oV)[s]? = some (.int m) := oV_at hsl hm
  refine ⟨_, (pss_cons (ps_set (i := 5) sc_tree.nd rfl (Or.inl rfl) (pe_lst (pa_cons (pv 3) pa_nil)))
    (pss_cons (ps_set (i := 6) sc_tree.nd rfl (Or.inl rfl) (pe_ix (ix_listK (K := K) rfl) (pv 2) (pv 3) (fun _ _ => rfl)))
    (pss_cons (ps_set (i := 7) sc_tree.nd rfl (Or.inl rfl) (pe_lst pa_nil))
    (pss_cons (ps_for PassesOwn.never rfl (pi_range1 (by rfl) B.range (pa_cons (pe_callB (c_max rfl) (by rfl) B.max PyProof.Rows.boot_max (pa_cons (pv 4) (pa_cons (pe_ix (ix_listK (K := K) rfl) (pv 2) (pv 3) (fun _ _ => rfl)) pa_nil))) pa_nil)) (pg_name (i := 8) sc_tree.nd rfl (Or.inl rfl))
    (pss_cons (ps_if (pt_not (p_truth (pv 5) (by intro _; rfl)))
      (pss_one ps_break)
      pss_nil)
      (pss_cons (ps_set (i := 9) sc_tree.nd rfl (Or.inl rfl) (pe_bm0 PySem.F.plainAttrs_list PySem.F.slot_list_pop PySem.F.type_list_pop mt_pop (pv 5)))
      (pss_cons (ps_set (i := 6) sc_tree.nd rfl (Or.inl rfl) (pe_op op_sub (pv 6) (pe_ix (ix_listK (K := K) rfl) (pv 2) (pv 9) (fun _ _ => rfl))))
      (pss_cons (ps_set (i := 10) sc_tree.nd rfl (Or.inl rfl) (pe_lst pa_nil))
      (pss_cons (ps_for PassesOwn.never rfl (pi_range1 (by rfl) B.range (pa_cons (pe_callB (c_lenK (K := K) rfl) (by rfl) B.len PySem.boot_len (pa_cons (pe_ix (ix_tupK (K := K) rfl) (pv 1) pe_int (fun _ _ => rfl)) pa_nil)) pa_nil)) (pg_name (i := 11) sc_tree.nd rfl (Or.inl rfl))
      (pss_cons (ps_set (i := 12) sc_tree.nd rfl (Or.inl rfl) (pe_cal C_size hr (by decide) (by rfl) (pa_cons (pe_ix (ix_tupK (K := K) rfl) (pe_ix (ix_tupK (K := K) rfl) (pv 1) pe_int (fun _ _ => rfl)) (pv 11) (fun _ _ => rfl)) (pa_cons (pv 2) pa_nil))))
        (pss_one (ps_if (PW.pt (pw_and (pt_cmpR op_eq (pe_ix (ix_tupK (K := K) rfl) (pe_ix (ix_tupK (K := K) rfl) (pe_ix (ix_tupK (K := K) rfl) (pv 1) pe_int (fun _ _ => rfl)) (pv 11) (fun _ _ => rfl)) pe_int (fun _ _ => rfl)) (pv 9) (nomark _)) (pw_and1 (pt_cmpR o_notN (pv 12) pe_non (nomark _)))))
        (pss_one (ps_if (PW.pt (pw_or (pt_cmpR op_eq (pv 12) (pe_ix (ix_listK (K := K) rfl) (pv 2) (pv 9) (fun _ _ => rfl)) (nomark _)) (pw_or1 (pt_cmpR op_le (pe_op op_add (pe_op op_add (pe_callB (c_lenK (K := K) rfl) (by rfl) B.len PySem.boot_len (pa_cons (pv 7) pa_nil)) (pv 6)) (pv 12)) (pv 4) (nomark _)))))
          (pss_one (ps_expr (pe_bm PySem.F.plainAttrs_list PySem.F.slot_list_append PySem.F.type_list_append mt_append (pv 10) (pa_cons (pv 11) pa_nil))))
          pss_nil))
        pss_nil))))
      (pss_cons (ps_set (i := 11) sc_tree.nd rfl (Or.inl rfl) (pe_ix (ix_listK (K := K) rfl) (pv 10) (pe_cal C_draw hr (by decide) (by rfl) (pa_cons (pv 0) (pa_cons (pe_callB (c_lenK (K := K) rfl) (by rfl) B.len PySem.boot_len (pa_cons (pv 10) pa_nil)) pa_nil))) (fun _ _ => rfl)))
      (pss_cons (ps_expr (pe_bm PySem.F.plainAttrs_list PySem.F.slot_list_append PySem.F.type_list_append mt_append (pv 7) (pa_cons (pv 11) pa_nil)))
      (pss_cons (ps_set (i := 6) sc_tree.nd rfl (Or.inl rfl) (pe_op op_sub (pe_op op_add (pv 6) (pe_cal C_size hr (by decide) (by rfl) (pa_cons (pe_ix (ix_tupK (K := K) rfl) (pe_ix (ix_tupK (K := K) rfl) (pv 1) pe_int (fun _ _ => rfl)) (pv 11) (fun _ _ => rfl)) (pa_cons (pv 2) pa_nil)))) pe_int))
      (pss_one (ps_for PassesOwn.never rfl (pi_revA (by rfl) B.reversed (pe_ix (ix_tupK (K := K) rfl) (pe_ix (ix_tupK (K := K) rfl) (pe_ix (ix_tupK (K := K) rfl) (pv 1) pe_int (fun _ _ => rfl)) (pv 11) (fun _ _ => rfl)) pe_int (fun _ _ => rfl))) (pg_name (i := 13) sc_tree.nd rfl (Or.inl rfl))
      (pss_one (ps_expr (pe_bm PySem.F.plainAttrs_list PySem.F.slot_list_append PySem.F.type_list_append mt_append (pv 5) (pa_cons (pv 13) pa_nil)))))))))))))))
    (pss_one (ps_ret (pe_callTy (c_tupleK (K := K) rfl) (by rfl) B.tuple PyProof.Rows.boot_tuple (pa_cons (pv 7) pa_nil)))))))), ?_⟩
  walk_at "go"
  refine ⟨lenOk (n := 1) rfl, fun st hst => ?_⟩
  have g1 : Go t H (upd H st (.lst [nV s])) := Go.new hst
  have hl1 := g1.at_ hl hlt
  walk_at "go"
  refine ⟨lenOk (n := 0) rfl, fun tr htr => ?_⟩
  have g2 : Go t H (upd (upd H st (.lst [nV s])) tr (.lst [])) := g1.trans (Go.new htr)
  have hl2 := g2.at_ hl hlt
  have nst : st ≠ tr := fun e => by
    rw [e, upd_same] at htr
    cases htr
  have htr0 : H tr = none := g1.back hT htr
  walk_at "go"
  generalize hMd : (if m > room then m else room) = M
  have hM1 : m ≤ M ∧ room ≤ M ∧ M ≤ 100 := by
    rw [← hMd]
    split <;> omega
  refine ⟨M, rfl, by omega, by omega, for_range (lo := 0) (n := M.toNat) (fun j σ H' => ∃ x8 x9 x10 x11 x12 x13 pend need T, σ = [some (.ref t), some (.ref f), some (.ref l), some (nV s), some (.int room), some (.ref st), some (.int need), some (.ref tr), x8, x9, x10, x11, x12, x13] ∧
      Go t H H' ∧ H' st = some (.lst (pend.reverse.map nV)) ∧ H' tr = some (.lst (T.map nV)) ∧ Grow F S s M j pend need T)
    ⟨none, none, none, none, none, none, [s], m, [], rfl, g2, by rw [upd_ne nst, upd_same]; rfl, upd_same, ?_, by omega, rfl, fun rest hf => hf⟩ (fun j σ H' hj p => ?_) (fun σ H' p => ?_)⟩
  · rw [acc_cons_some hm]
    exact congrArg some (by omega)
  · obtain ⟨x8, x9, x10, x11, x12, x13, pend, need, T, rfl, g, hst', htr', gr⟩ := p
    have hl' := g.at_ hl hlt
    have h1' := g.te _ _ h1
    have h2' := g.te _ _ h2
    walk_at "go"
    cases pend with
    | nil =>
      refine iteT ?_
      walk_at "go"
      refine w_tuple htr' fun y hy => ?_
      refine q y T _ (g.trans (Go.new hy)) upd_same (grow_end ⟨_, gr⟩) ?_
      rw [gr.len]
      omega
    | cons g0 rr =>
      rw [rev_cons] at hst'
      have hne : (!((g0 :: rr).reverse.map nV).isEmpty) = true := by
        rw [rev_cons]
        cases rr.reverse.map nV <;> rfl
      rw [hne]
      refine iteF ?_
      walk_at "go"
      refine w_pop hst' ?_
      obtain ⟨x, hx, _⟩ := acc_cons_inv gr.sum
      have hgl : g0 < S.length := tg_lt hx
      have hgx : (S.map oV)[g0]? = some (.int x) := oV_at hgl hx
      have gp : Go t H (upd H' st (.lst (rr.reverse.map nV))) := g.mut hst
      have hlp := gp.at_ hl hlt
      walk_at "go"
      refine ⟨lenOk (n := 0) rfl, fun fit hfit => ?_⟩
      generalize hH1 : upd H' st (.lst (rr.reverse.map nV)) = H1 at *
      have hfs : H1 st = some (.lst (rr.reverse.map nV)) := by rw [← hH1]; exact upd_same
      have hft : H1 tr = some (.lst (T.map nV)) := by rw [← hH1, upd_ne nst.symm]; exact htr'
      have nfs : st ≠ fit := ne_of_none hfs hfit
      have nft : tr ≠ fit := ne_of_none hft hfit
      have hfit0 : H fit = none := gp.back hT hfit
      have ftt : fit ≠ t := (gp.tp hT).ne hfit
      have gq : ∀ o, Go t H (upd H1 fit o) := fun o => gp.mut hfit0
      have hvx : ∀ o, (upd H1 fit o) f = _ := fun o => (gq o).te _ _ h1
      have hv2 : ∀ o, (upd H1 fit o) va = _ := fun o => (gq o).te _ _ h2
      have hv1 := hvx (.lst [])
      have hv3 := hv2 (.lst [])
      walk_at "go"
      have hxl : xs.length = F.length := pair_len h3
      have hF12 := ok.few
      refine ⟨(xs.length : Int), rfl, by omega, by omega, for_range (lo := 0) (n := xs.length) (fun i σ H'' => ∃ x8 x11 x12 x13 ls, σ = [some (.ref t), some (.ref f), some (.ref l), some (nV s), some (.int room), some (.ref st), some (.int (need - x)), some (.ref tr), x8, some (nV g0), some (.ref fit), x11, x12, x13] ∧
          H'' = upd H1 fit (.lst (ls.map nV)) ∧ ls.length ≤ i ∧ (∀ k ∈ ls, Fits F S g0 x (room - (j + (need - x))) k) ∧ ∀ (k : Nat) v, k < i → F[k]? = some v → v.plug = g0 → sizeOf S v = some x → ls ≠ [])
        ⟨_, _, _, _, [], rfl, rfl, Nat.le_refl 0, (fun k hk => nomatch hk), fun k v hk => absurd hk (Nat.not_lt_zero k)⟩ (fun i σ H'' hi p => ?_) (fun σ H'' p => ?_)⟩
      · obtain ⟨x8, x11, x12, x13, ls, rfl, rfl, hls, hfits, hsome⟩ := p
        have hv1 := hvx (.lst (ls.map nV))
        have hv3 := hv2 (.lst (ls.map nV))
        have hlf := (gq (.lst (ls.map nV))).at_ hl hlt
        have hFi : i < F.length := by omega
        have hv : F[i]? = some F[i] := List.getElem?_eq_getElem hFi
        generalize F[i] = v at hv
        obtain ⟨y, hy, a, b, rfl, ha, hb⟩ := pair_at h3 hv
        have vok := ok.all v (List.mem_of_getElem? hv)
        have ha := (gq (.lst (ls.map nV))).te _ _ ha
        have hb := (gq (.lst (ls.map nV))).te _ _ hb
        have hfo : (upd H1 fit (.lst (ls.map nV))) fit = some (.lst (ls.map nV)) := upd_same
        have htr1 : (upd H1 fit (.lst (ls.map nV))) tr = some (.lst (T.map nV)) := by rw [upd_ne nft]; exact hft
        have hy0 : atI xs (0 + (i : Int)) = some (.ref a) := at_of (by omega) hy
        have ei : (0 : Int) + (i : Int) = (i : Int) := Int.zero_add _
        rw [ei]
        walk_at "go"
        refine ⟨.ref a, l, v, S, rfl, ⟨a, b, rfl, ha, hb⟩, hlf, fun z hz => by rw [hS.len]; exact vok.slots z hz, ?_⟩
        walk_at "go"
        have skip : ¬ (v.plug = g0 ∧ sizeOf S v = some x) → ∀ (k : Nat) u, k < i + 1 → F[k]? = some u → u.plug = g0 → sizeOf S u = some x → ls ≠ [] := fun no k u hk e1 e2 e3 => by
          by_cases z : k = i
          · rw [z, hv] at e1
            cases e1
            exact absurd ⟨e2, e3⟩ no
          · exact hsome k u (by omega) e1 e2 e3
        refine ite2 (fun e => ?_) (fun e => ?_)
        · have e : v.plug = g0 := by
            have := of_decide_eq_true e
            omega
          walk_at "go"
          rw [oV_dec]
          cases hz : sizeOf S v with
          | none =>
            refine iteF ?_
            walk_at "go"
            exact ⟨_, _, _, _, ls, rfl, rfl, by omega, hfits, skip (fun c => by rw [hz] at c; cases c.2)⟩
          | some z =>
            refine iteT ?_
            rw [oV_some]
            walk_at "go"
            have add : (z = x ∨ z ≤ room - (j + (need - x))) → ∀ k ∈ ls ++ [i], Fits F S g0 x (room - (j + (need - x))) k := fun c k hk => by
              rcases List.mem_append.mp hk with hk | hk
              · exact hfits k hk
              · rw [List.mem_singleton.mp hk]
                exact ⟨v, z, hv, e, hz, c⟩
            have app : upd (upd H1 fit (.lst (ls.map nV))) fit (.lst (ls.map nV ++ [nV i])) = upd H1 fit (.lst ((ls ++ [i]).map nV)) := by
              rw [upd_upd, List.map_append]
              rfl
            have few : (ls.map nV).length < sizeLine := by
              rw [List.length_map]
              exact small1000 (by omega)
            refine ite2 (fun e2 => ?_) (fun e2 => ?_)
            · refine iteT ?_
              walk_at "go"
              refine w_app hfo few ?_
              rw [app]
              walk_at "go"
              exact ⟨_, _, _, _, ls ++ [i], rfl, rfl, by rw [List.length_append]; simp only [List.length_singleton]; omega, add (.inl (of_decide_eq_true e2)), fun _ _ _ _ _ _ c => by simp at c⟩
            · walk_at "go"
              refine ite2 (fun e3 => ?_) (fun e3 => ?_)
              · walk_at "go"
                refine w_app hfo few ?_
                rw [app]
                walk_at "go"
                have e3 := of_decide_eq_true e3
                rw [List.length_map, gr.len] at e3
                exact ⟨_, _, _, _, ls ++ [i], rfl, rfl, by rw [List.length_append]; simp only [List.length_singleton]; omega, add (.inr (by omega)), fun _ _ _ _ _ _ c => by simp at c⟩
              · walk_at "go"
                exact ⟨_, _, _, _, ls, rfl, rfl, by omega, hfits, skip (fun c => by rw [hz] at c; exact e2 (decide_eq_true (Option.some.inj c.2)))⟩
        · refine iteF ?_
          walk_at "go"
          exact ⟨_, _, _, _, ls, rfl, rfl, by omega, hfits, skip (fun c => e (decide_eq_true (by rw [c.1])))⟩
      · obtain ⟨x8, x11, x12, x13, ls, rfl, rfl, hls, hfits, hsome⟩ := p
        obtain ⟨v0, hv0, hp0, hz0⟩ := hS.att g0 x hx
        obtain ⟨k0, hk0⟩ := List.getElem?_of_mem hv0
        have hk0l : k0 < xs.length := by
          have := (List.getElem?_eq_some_iff.mp hk0).1
          omega
        have hne2 := hsome k0 v0 hk0l hk0 hp0 hz0
        have hlen : 1 ≤ ls.length := by
          cases ls with
          | nil => exact absurd rfl hne2
          | cons c d =>
            rw [List.length_cons]
            omega
        have hfo : (upd H1 fit (.lst (ls.map nV))) fit = some (.lst (ls.map nV)) := upd_same
        walk_at "go"
        refine ⟨t, _, rfl, (gq _).tp hT, by rw [List.length_map]; omega, by rw [List.length_map]; omega, fun rd H2 g4 hrd0 hrdl => ?_⟩
        rw [List.length_map] at hrdl
        have hrl : rd.toNat < ls.length := by omega
        have hk : ls[rd.toNat]? = some ls[rd.toNat] := List.getElem?_eq_getElem hrl
        generalize ls[rd.toNat] = k at hk
        have hka : atI (ls.map nV) rd = some (nV k) := at_of (j := rd.toNat) (by omega) (nV_get hk)
        have hfo2 := g4.at_ hfo ftt
        have g5 := (gq (.lst (ls.map nV))).trans g4
        have stt : st ≠ t := hT.ne hst
        have trt : tr ≠ t := hT.ne htr0
        have htr2 : H2 tr = some (.lst (T.map nV)) := g4.at_ (by rw [upd_ne nft]; exact hft) trt
        have hst2 : H2 st = some (.lst (rr.reverse.map nV)) := g4.at_ (by rw [upd_ne nfs]; exact hfs) stt
        walk_at "go"
        refine w_app htr2 ?_ ?_
        · rw [List.length_map, gr.len]
          exact small1000 (by omega)
        obtain ⟨v, z, hv, hz, gn⟩ := grow_next gr hx hM1.2.1 (hfits k (List.mem_of_getElem? hk))
        generalize hH3 : upd H2 tr (.lst (T.map nV ++ [nV k])) = H3
        have g6 : Go t H H3 := by
          rw [← hH3]
          exact g5.mut htr0
        have h1b := g6.te _ _ h1
        have h2b := g6.te _ _ h2
        have hlb := g6.at_ hl hlt
        obtain ⟨y, hy, a, b, rfl, ha, hb⟩ := pair_at h3 hv
        have vok := ok.all v (List.mem_of_getElem? hv)
        have ha := g6.te _ _ ha
        have hb := g6.te _ _ hb
        have hst3 : H3 st = some (.lst (rr.reverse.map nV)) := by
          rw [← hH3, upd_ne nst]
          exact hst2
        have htr3 : H3 tr = some (.lst ((T ++ [k]).map nV)) := by
          rw [← hH3, upd_same, List.map_append]
          rfl
        have hya : atI xs ((k : Nat) : Int) = some (.ref a) := atI_nat hy
        walk_at "go"
        refine ⟨.ref a, l, v, S, rfl, ⟨a, b, rfl, ha, hb⟩, hlb, fun z hz => by rw [hS.len]; exact vok.slots z hz, ?_⟩
        rw [hz, oV_some]
        walk_at "go"
        have eu : upd H3 st (.lst (rr.reverse.map nV ++ (v.slots.reverse.take 0).map nV)) = H3 := by
          rw [List.take_zero, List.map_nil, List.append_nil]
          funext c
          by_cases e : c = st
          · rw [e, upd_same, hst3]
          · rw [upd_ne e]
        have hs3 := vok.few
        refine ⟨b, v.slots.map nV, rfl, .inr ⟨SqT.of hb, for_ItvT (xs := v.slots.map nV) (fun i σ H'' => ∃ x8 x12 x13, σ = [some (.ref t), some (.ref f), some (.ref l), some (nV s), some (.int room), some (.ref st), some (.int (need - x + z - 1)), some (.ref tr), x8, some (nV g0), some (.ref fit), some (nV k), x12, x13] ∧
            H'' = upd H3 st (.lst (rr.reverse.map nV ++ (v.slots.reverse.take i).map nV))) ⟨_, _, _, rfl, eu.symm⟩ (fun i σ H'' p => ?_) (fun i c σ H'' hi hc p => ?_) (fun σ H'' p => ?_)⟩⟩
        · obtain ⟨_, _, _, _, rfl⟩ := p
          exact SqT.of ((g6.mut hst).te _ _ (by assumption))
        · obtain ⟨x8, x12, x13, rfl, rfl⟩ := p
          obtain ⟨s1, hs1, rfl⟩ := rev_get hi hc
          walk_at "go"
          refine ⟨.inl ⟨rfl, _, SqL.of upd_same⟩, ?_⟩
          walk_at "go"
          refine w_app upd_same ?_ ?_
          · rw [List.length_append, List.length_map, List.length_map, List.length_take, List.length_reverse, List.length_reverse]
            refine small1000 ?_
            have := acc_pos hS.pos gr.sum
            rw [List.length_cons] at this
            have := gr.room
            omega
          walk_at "go"
          refine ⟨_, _, _, rfl, ?_⟩
          rw [upd_upd, take_at hs1, List.map_append, List.append_assoc]
          rfl
        · obtain ⟨x8, x12, x13, rfl, rfl⟩ := p
          refine ⟨_, _, _, _, _, _, v.slots ++ rr, _, T ++ [k], rfl, g6.mut hst, ?_, ?_, gn⟩
          · rw [upd_same, List.length_map, ← List.length_reverse, List.take_length, List.reverse_append, List.map_append]
          · rw [upd_ne nst.symm]
            exact htr3
  · obtain ⟨x8, x9, x10, x11, x12, x13, pend, need, T, rfl, g, hst', htr', gr⟩ := p
    have hpos := acc_pos hS.pos gr.sum
    have hroom := gr.room
    have hp0 : pend = [] := by
      cases pend with
      | nil => rfl
      | cons c d =>
        rw [List.length_cons] at hpos
        omega
    subst hp0
    walk_at "go"
    refine w_tuple htr' fun y hy => ?_
    refine q y T _ (g.trans (Go.new hy)) upd_same (grow_end ⟨_, gr⟩) ?_
    rw [gr.len]
    omega
theorem ok_extreme (Fn : Fun K "_law_extreme" "_law_extreme" s_extreme f fd) (B : Bi mg) (C_cost : Cal P w K mg base "_law_cost" ["_law_variant", "_law_table"] 1 spCost) : FnOk P w K mg base CX0 2 f fd ["_law_family_here", "_law_sign"] spExtreme := by
  refine Fn.ok sc_extreme (fun vs H Q E h => ?_) (fun cdv A outer s H vs Q E hr h => ?_)
  · obtain ⟨f, n, F, sg, rfl, _⟩ := h
    rfl
  obtain ⟨f, n, F, sg, rfl, hF, ok, hs, q, qn⟩ := h
  obtain ⟨r, va, xs, h1, h2, h3⟩ := id hF
  have hn := ok.top
  have hsg : -(2 ^ 64) < sg ∧ sg < 2 ^ 64 := by rcases hs with rfl | rfl <;> exact ⟨by decide, by decide⟩
  refine ⟨_, (pss_cons (ps_setLc (i := 2) (own := [("_law_state", 7)]) (g := gName 7) rfl sc_extreme.nd rfl rfl (sw_true rfl rfl rfl (by decide +kernel)) (pi_range1 (by rfl) B.range (pa_cons (pe_ix (ix_tupK (K := K) rfl) (pv 0) pe_int (fun _ _ => rfl)) pa_nil)) (blkOk_by (N := ["_law_family_here", "_law_sign", "_law_table", "_law_turn", "_law_changed", "_law_variant", "_law_cost_here", "_law_state"]) (sc := defScope s_extreme) (by decide +kernel)) (fun _ _ _ _ _ => pg_name (i := 7) sc_extreme.nd rfl (Or.inl rfl)) (fun _ _ _ _ _ => pts_nil) (fun _ _ _ _ _ => pe_non))
    (pss_cons (ps_for PassesOwn.never rfl (pi_range1 (by rfl) B.range (pa_cons (pe_op op_add (pe_ix (ix_tupK (K := K) rfl) (pv 0) pe_int (fun _ _ => rfl)) pe_int) pa_nil)) (pg_name (i := 3) sc_extreme.nd rfl (Or.inl rfl))
    (pss_cons (ps_set (i := 4) sc_extreme.nd rfl (Or.inl rfl) pe_bl)
      (pss_cons (ps_for PassesOwn.never rfl (pi_tup (pe_ix (ix_tupK (K := K) rfl) (pv 0) pe_int (fun _ _ => rfl))) (pg_name (i := 5) sc_extreme.nd rfl (Or.inl rfl))
      (pss_cons (ps_set (i := 6) sc_extreme.nd rfl (Or.inl rfl) (pe_cal C_cost hr (by decide) (by rfl) (pa_cons (pv 5) (pa_cons (pv 2) pa_nil))))
        (pss_one (ps_if (PW.pt (pw_and (pt_cmpR o_notN (pv 6) pe_non (nomark _)) (pw_and1 (PW.pt (pw_or (pt_cmpR o_isN (pe_ix (ix_listK (K := K) rfl) (pv 2) (pe_ix (ix_tupK (K := K) rfl) (pv 5) pe_int (fun _ _ => rfl)) (fun _ _ => rfl)) pe_non (nomark _)) (pw_or1 (pt_cmpR op_lt (pe_op op_mul (pe_op op_sub (pv 6) (pe_ix (ix_listK (K := K) rfl) (pv 2) (pe_ix (ix_tupK (K := K) rfl) (pv 5) pe_int (fun _ _ => rfl)) (fun _ _ => rfl))) (pv 1)) pe_int (nomark _))))))))
        (pss_cons (ps_asg (pv 6) (pg_sub (pv 2) (pe_ix (ix_tupK (K := K) rfl) (pv 5) pe_int (fun _ _ => rfl)) set_list))
          (pss_one (ps_set (i := 4) sc_extreme.nd rfl (Or.inl rfl) pe_bl)))
        pss_nil))))
      (pss_one (ps_if (pt_not (p_truth (pv 4) (by intro _; rfl)))
      (pss_one (ps_ret (pv 2)))
      pss_nil)))))
    (pss_one (ps_ret pe_non)))), ?_⟩
  walk_at "go"
  refine ⟨(n : Int), rfl, by omega, by omega, fun l hl => lc_range (lo := 0) (n := n) (fun i H' => Ex H H' ∧ H' l = some (lstO (List.replicate i none))) ⟨Evl.Ex.new hl, upd_same⟩ (fun i H' hi p => ?_) (fun H' p => ?_)⟩
  · obtain ⟨e, hD⟩ := p
    walk_at "go"
    refine ⟨rfl, ?_⟩
    walk_at "go"
    refine iteT ?_
    walk_at "go"
    refine ⟨_, hD, ?_, Evl.Ex.mut e hl, ?_⟩
    · rw [List.length_map, List.length_replicate]
      exact small1000 (by omega)
    · rw [upd_same, List.replicate_succ']
      unfold lstO
      rw [List.map_append]
      rfl
  obtain ⟨e0, hl0⟩ := p
  have h1' := e0 _ _ h1
  walk_at "go"
  refine ⟨(n : Int) + 1, rfl, by omega, by omega, for_range (lo := 0) (n := n + 1) (fun j σ H' => ∃ x3 x4 x5 x6 x7 T, σ = [some (.ref f), some (.int sg), some (.ref l), x3, x4, x5, x6, x7] ∧ Ex H H' ∧ H' l = some (lstO T) ∧ T.length = n)
    ⟨_, _, _, _, _, _, rfl, e0, hl0, List.length_replicate⟩ (fun j σ H' hj p => ?_) (fun σ H' p => ?_)⟩
  · obtain ⟨x3, x4, x5, x6, x7, T, rfl, e, hS, hT⟩ := p
    have h1 := e _ _ h1
    have h2 := e _ _ h2
    walk_at "go"
    refine ⟨va, rfl, ⟨_, SqT.of h2⟩, for_tup (xs := xs) (fun i σ H' => ∃ x3 ch x5 x6 x7 T, σ = [some (.ref f), some (.int sg), some (.ref l), x3, some (.bl ch), x5, x6, x7] ∧ Ex H H' ∧ H' l = some (lstO T) ∧ T.length = n)
      ⟨_, _, _, _, _, _, rfl, e, hS, hT⟩ (fun i σ H' _ p => ?_) (fun i x σ H' hx p => ?_) (fun σ H' p => ?_)⟩
    · obtain ⟨_, _, _, _, _, _, _, e, _⟩ := p
      exact SqT.of (e _ _ (by assumption))
    · obtain ⟨x3, ch, x5, x6, x7, T, rfl, e, hS, hT⟩ := p
      obtain ⟨v, hv, a, b, rfl, ha, hb⟩ := pair_get h3 hx
      have vok := ok.all v (List.mem_of_getElem? hv)
      have ha := e _ _ ha
      have hb := e _ _ hb
      have hlt : v.plug < T.length := by
        rw [hT]
        exact vok.plug
      have hg := oV_get hlt
      walk_at "go"
      refine ⟨.ref a, l, v, T, rfl, ⟨a, b, rfl, ha, hb⟩, .inl hS, fun s hs => by rw [hT]; exact vok.slots s hs, ?_⟩
      walk_at "go"
      rw [oV_dec]
      cases hc : costOf T v with
      | none =>
        refine iteF ?_
        refine iteF ?_
        walk_at "go"
        exact ⟨_, _, _, _, _, T, rfl, e, hS, hT⟩
      | some k =>
        refine iteT ?_
        rw [oV_some]
        walk_at "go"
        rw [oV_dec]
        have after : (upd H' l (.lst ((T.map oV).set v.plug (.int k)))) l = some (lstO (T.set v.plug (some k))) := by
          rw [upd_same]
          unfold lstO
          rw [List.map_set]
          rfl
        have hT2 : (T.set v.plug (some k)).length = n := by
          rw [List.length_set]
          exact hT
        have hixn : ixN (T.map oV).length ((v.plug : Nat) : Int) = some v.plug := ix_nat (by rw [List.length_map]; exact hlt)
        cases hx : tg T v.plug with
        | none =>
          refine iteT ?_
          refine iteT ?_
          walk_at "go"
          exact ⟨_, _, _, _, _, _, rfl, Evl.Ex.mut e hl, after, hT2⟩
        | some y =>
          refine iteF ?_
          have hg : (T.map oV)[v.plug]? = some (.int y) := by
            rw [hg, hx]
            rfl
          walk_at "go"
          refine ite2 (fun z => ?_) (fun z => ?_)
          · walk_at "go"
            exact ⟨_, _, _, _, _, _, rfl, Evl.Ex.mut e hl, after, hT2⟩
          · walk_at "go"
            exact ⟨_, _, _, _, _, T, rfl, e, hS, hT⟩
    · obtain ⟨x3, ch, x5, x6, x7, T, rfl, e, hS, hT⟩ := p
      walk_at "go"
      cases ch with
      | false =>
        refine iteT ?_
        walk_at "go"
        exact q l T H' e hl hS hT
      | true =>
        refine iteF ?_
        walk_at "go"
        exact ⟨_, _, _, _, _, T, rfl, e, hS, hT⟩
  · obtain ⟨x3, x4, x5, x6, x7, T, rfl, e, hS, hT⟩ := p
    walk_at "go"
    exact qn H' e
theorem ok_moved (Fn : Fun K "_law_moved" "_law_moved" s_moved f fd) (B : Bi mg) (C_draw : Cal P w K mg base "_law_draw" ["_law_tape_here", "_law_menu"] 1 spDraw) : FnOk P w K mg base CX0 2 f fd ["_law_tape_here", "_law_family_here", "_law_sign"] spMoved := by
  refine Fn.ok sc_moved (fun vs H Q E h => ?_) (fun cdv A outer s H vs Q E hr h => ?_)
  · obtain ⟨t, f, n, F, sg, rfl, _⟩ := h
    rfl
  obtain ⟨t, f, n, F, sg, rfl, hT, hF, ok, hs, q⟩ := h
  obtain ⟨r, va, xs, h1, h2, h3⟩ := id hF
  have hsg : -(2 ^ 64) < sg ∧ sg < 2 ^ 64 := by rcases hs with rfl | rfl <;> exact ⟨by decide, by decide⟩
  refine ⟨_, (pss_cons (ps_set (i := 3) sc_moved.nd rfl (Or.inl rfl) (pe_lst pa_nil))
    (pss_cons (ps_set (i := 4) sc_moved.nd rfl (Or.inl rfl) (pe_ix (ix_listK (K := K) rfl) (pe_lst (pa_cons pe_int (pa_cons pe_int (pa_cons pe_int pa_nil)))) (pe_cal C_draw hr (by decide) (by rfl) (pa_cons (pv 0) (pa_cons pe_int pa_nil))) (fun _ _ => rfl)))
    (pss_cons (ps_for PassesOwn.never rfl (pi_tup (pe_ix (ix_tupK (K := K) rfl) (pv 1) pe_int (fun _ _ => rfl))) (pg_name (i := 5) sc_moved.nd rfl (Or.inl rfl))
    (pss_cons (ps_set (i := 6) sc_moved.nd rfl (Or.inl rfl) (pe_ix (ix_tupK (K := K) rfl) (pv 5) pe_int (fun _ _ => rfl)))
      (Evl.pss_cut (ps_if (PW.pt (pw_and (pt_cmpR o_notN (pv 6) pe_non (nomark _)) (pw_and1 (pt_cmpR op_eq (pe_cal C_draw hr (by decide) (by rfl) (pa_cons (pv 0) (pa_cons (pv 4) pa_nil))) pe_int (nomark _)))))
      (pss_cons (ps_set (i := 7) sc_moved.nd rfl (Or.inl rfl) (pe_cal C_draw hr (by decide) (by rfl) (pa_cons (pv 0) (pa_cons (pe_ix (ix_listK (K := K) rfl) (pe_lst (pa_cons pe_int (pa_cons pe_int (pa_cons (pe_op op_pow pe_int pe_int) pa_nil)))) (pe_cal C_draw hr (by decide) (by rfl) (pa_cons (pv 0) (pa_cons pe_int pa_nil))) (fun _ _ => rfl)) pa_nil))))
        (Evl.pss_cut (ps_if (PW.pt (pw_and (pt_cmpR op_ge (pv 6) pe_int (nomark _)) (pw_and1 (pt_cmpR op_eq (pv 2) pe_int (nomark _)))))
        (pss_one (ps_set (i := 7) sc_moved.nd rfl (Or.inl rfl) (pe_callB (c_min rfl) (by rfl) B.min PyProof.Rows.boot_min (pa_cons (pv 7) (pa_cons (pv 6) pa_nil)))))
        pss_nil)
        (pss_one (ps_set (i := 6) sc_moved.nd rfl (Or.inl rfl) (pe_op op_sub (pv 6) (pe_op op_mul (pv 2) (pv 7)))))))
      pss_nil)
      (pss_one (ps_expr (pe_bm PySem.F.plainAttrs_list PySem.F.slot_list_append PySem.F.type_list_append mt_append (pv 3) (pa_cons (pe_tup (pa_cons (pe_ix (ix_tupK (K := K) rfl) (pv 5) pe_int (fun _ _ => rfl)) (pa_cons (pe_ix (ix_tupK (K := K) rfl) (pv 5) pe_int (fun _ _ => rfl)) (pa_cons (pv 6) pa_nil)))) pa_nil)))))))
    (pss_one (ps_ret (pe_tup (pa_cons (pe_ix (ix_tupK (K := K) rfl) (pv 1) pe_int (fun _ _ => rfl)) (pa_cons (pe_ix (ix_tupK (K := K) rfl) (pv 1) pe_int (fun _ _ => rfl)) (pa_cons (pe_callTy (c_tupleK (K := K) rfl) (by rfl) B.tuple PyProof.Rows.boot_tuple (pa_cons (pv 3) pa_nil)) pa_nil))))))))), ?_⟩
  walk_at "go"
  refine ⟨lenOk (n := 0) rfl, fun p hp => ?_⟩
  have g1 : Go t H (upd H p (.lst [])) := Go.new hp
  have ptt : p ≠ t := hT.ne hp
  walk_at "go"
  refine ⟨lenOk (n := 3) rfl, fun p1 hp1 => ?_⟩
  have g2 := g1.trans (Go.new (t := t) (o := .lst [.int 1, .int 2, .int 4]) hp1)
  have hpp : (upd (upd H p (.lst [])) p1 (.lst [.int 1, .int 2, .int 4])) p = some (.lst []) := by
    rw [upd_ne (ne_of_none upd_same hp1), upd_same]
  walk_at "go"
  refine ⟨t, 3, rfl, g2.tp hT, by decide, by decide, fun r1 H1 g3 hr0 hr1 => ?_⟩
  obtain ⟨sh, ⟨hsh1, hsh2⟩, hsh⟩ := menu (l := [1, 2, 4]) (fun c => 1 ≤ c ∧ c < 1073741824) (by decide) hr0 hr1
  have hp1t : p1 ≠ t := (g1.tp hT).ne hp1
  have hL := g3.at_ (upd_same : (upd (upd H p (.lst [])) p1 (.lst [.int 1, .int 2, .int 4])) p1 = _) hp1t
  refine w_ixL hL hsh ?_
  have g4 := g2.trans g3
  have hp4 := g3.at_ hpp ptt
  have h1b := g4.te _ _ h1
  have h2b := g4.te _ _ h2
  walk_at "go"
  refine ⟨va, rfl, ⟨_, SqT.of h2b⟩, for_tup (xs := xs) (fun i σ H' => ∃ x5 x6 x7 rs G, σ = [some (.ref t), some (.ref f), some (.int sg), some (.ref p), some (.int sh), x5, x6, x7] ∧ Go t H H' ∧ H' p = some (.lst rs) ∧ Paired (VrAt H') rs G ∧ G.length = i ∧ ∀ u ∈ G, VrOk n u)
    ⟨_, _, _, [], [], rfl, g4, hp4, .nil, rfl, (fun u hu => nomatch hu)⟩ (fun i σ H' _ p => ?_) (fun i x σ H' hx p => ?_) (fun σ H' p => ?_)⟩
  · obtain ⟨_, _, _, _, _, _, g, _⟩ := p
    exact SqT.of (g.te _ _ h2)
  · obtain ⟨x5, x6, x7, rs, G, rfl, g, hrs, hG, hGl, hGo⟩ := p
    obtain ⟨v, hv, a, b, rfl, ha, hb⟩ := pair_get h3 hx
    have vok := ok.all v (List.mem_of_getElem? hv)
    have ha' := g.te _ _ ha
    walk_at "go"
    refine w_cutS (Mid := fun σ' H2 => ∃ o x7, σ' = [some (.ref t), some (.ref f), some (.int sg), some (.ref p), some (.int sh), some (.ref a), some (oV o), x7] ∧ Go t H' H2) ?_ fun σ' H2 hmid => ?_
    · walk_at "go"
      rw [oV_dec]
      cases hpr : v.price with
      | none =>
        refine iteF ?_
        refine iteF ?_
        walk_at "go"
        exact ⟨none, _, rfl, Go.refl t H'⟩
      | some pr =>
        rw [oV_some]
        refine iteT ?_
        walk_at "go"
        refine ⟨t, sh, rfl, g.tp hT, hsh1, hsh2, fun r2 H2 g5 _ _ => ?_⟩
        walk_at "go"
        refine ite2 (fun e => ?_) (fun e => ?_)
        · walk_at "go"
          refine ⟨lenOk (n := 3) rfl, fun p2 hp2 => ?_⟩
          have g6 := g5.trans (Go.new (t := t) (o := .lst [.int 2, .int 10, .int (10 ^ (9 : Int).toNat)]) hp2)
          have hp2t : p2 ≠ t := ((g.trans g5).tp hT).ne hp2
          walk_at "go"
          refine ⟨t, 3, rfl, (g.trans g6).tp hT, by decide, by decide, fun r3 H3 g7 hr30 hr31 => ?_⟩
          obtain ⟨c, ⟨hc1, hc2⟩, hc⟩ := menu (l := [2, 10, 10 ^ (9 : Int).toNat]) (fun c => 1 ≤ c ∧ c < 1073741824) (by decide +kernel) hr30 hr31
          refine w_ixL (g7.at_ upd_same hp2t) hc ?_
          walk_at "go"
          refine ⟨t, c, rfl, ((g.trans g6).trans g7).tp hT, hc1, hc2, fun r4 H4 g8 _ _ => ?_⟩
          walk_at "go"
          refine w_cutS (Mid := fun σ' H5 => ∃ k, σ' = [some (.ref t), some (.ref f), some (.int sg), some (.ref p), some (.int sh), some (.ref a), some (.int pr), some (.int k)] ∧ H5 = H4) ?_ fun σ' H5 hmid => ?_
          · walk_at "go"
            refine ite2 (fun e => ?_) (fun e => ?_)
            · walk_at "go"
              refine ite2 (fun e => ?_) (fun e => ?_)
              · walk_at "go"
                exact ⟨_, rfl, rfl⟩
              · walk_at "go"
                exact ⟨_, rfl, rfl⟩
            · refine iteF ?_
              walk_at "go"
              exact ⟨_, rfl, rfl⟩
          · obtain ⟨k, rfl, rfl⟩ := hmid
            walk_at "go"
            exact ⟨some (pr - sg * k), _, rfl, (g6.trans g7).trans g8⟩
        · walk_at "go"
          exact ⟨some pr, _, rfl, g5⟩
    · obtain ⟨o, x7, rfl, g5⟩ := hmid
      have ha2 := g5.te _ _ ha'
      have hb2 := g5.te _ _ (g.te _ _ hb)
      have hrs2 := g5.at_ hrs ptt
      walk_at "go"
      refine ⟨lenOk (n := 3) rfl, fun y hy => ?_⟩
      have hyp : p ≠ y := ne_of_none hrs2 hy
      have hrs3 : (upd H2 y (.tup [nV v.plug, .ref b, oV o])) p = some (.lst rs) := by
        rw [upd_ne hyp]
        exact hrs2
      walk_at "go"
      have hl12 := ok.few
      have hil := (List.getElem?_eq_some_iff.mp hv).1
      refine w_app hrs3 ?_ ?_
      · rw [pair_len hG, hGl]
        exact small1000 (by omega)
      walk_at "go"
      have te1 : TE H2 (upd (upd H2 y (.tup [nV v.plug, .ref b, oV o])) p (.lst (rs ++ [.ref y]))) := (TE.new hy).trans (TE.set hrs3)
      refine ⟨_, _, _, rs ++ [.ref y], G ++ [⟨v.plug, v.slots, o⟩], rfl, ((g.trans g5).trans (Go.new hy)).mut hp, upd_same, pair_app (pair_mono (g5.te.trans te1) hG) (pair_one ⟨y, b, rfl, ?_, te1 _ _ hb2⟩), ?_, fun u hu => ?_⟩
      · rw [upd_ne hyp.symm, upd_same]
      · rw [List.length_append, hGl]
        rfl
      · rcases List.mem_append.mp hu with hu | hu
        · exact hGo u hu
        · rw [List.mem_singleton.mp hu]
          exact ⟨vok.plug, vok.few, vok.slots⟩
  · obtain ⟨x5, x6, x7, rs, G, rfl, g, hrs, hG, hGl, hGo⟩ := p
    have h1c := g.te _ _ h1
    walk_at "go"
    refine w_tuple hrs fun vt hvt => ?_
    walk_at "go"
    refine ⟨lenOk (n := 3) rfl, fun y hy => ?_⟩
    have e1 : TE H' (upd (upd H' vt (.tup rs)) y (.tup [nV n, r, .ref vt])) := (TE.new hvt).trans (TE.new hy)
    refine q y G _ ((g.trans (Go.new hvt)).trans (Go.new hy)) ⟨r, vt, rs, upd_same, ?_, pair_mono e1 hG⟩ ⟨ok.pos, ok.top, ?_, hGo⟩
    · rw [upd_ne (ne_of_none upd_same hy), upd_same]
    · rw [hGl, pair_len h3]
      exact ok.few
theorem ok_some_tree (Fn : Fun K "_law_some_tree" "_law_some_tree" s_some_tree f fd) (B : Bi mg) (C_draw : Cal P w K mg base "_law_draw" ["_law_tape_here", "_law_menu"] 1 spDraw) (C_sizes : Cal P w K mg base "_law_sizes" ["_law_family_here"] 2 spSizes)
    (C_tree : Cal P w K mg base "_law_tree" ["_law_tape_here", "_law_family_here", "_law_sizes_here", "_law_state", "_law_room"] 2 spTree) : FnOk P w K mg base CX0 3 f fd ["_law_tape_here", "_law_family_here", "_law_room"] spSome := by
  refine Fn.ok sc_some_tree (fun vs H Q E h => ?_) (fun cdv A outer s H vs Q E hr h => ?_)
  · obtain ⟨t, f, n, F, room, rfl, _⟩ := h
    rfl
  obtain ⟨t, f, n, F, room, rfl, hT, hF, ok, hr0, hr40, q⟩ := h
  obtain ⟨r, va, xs, h1, h2, h3⟩ := id hF
  have hn4 := ok.top
  refine ⟨_, (pss_cons (ps_set (i := 3) sc_some_tree.nd rfl (Or.inr rfl) (pe_cal C_sizes hr (by decide) (by rfl) (pa_cons (pv 1) pa_nil)))
    (pss_cons (ps_setLc (i := 5) (own := [("_law_state", 4)]) (g := gName 4) rfl sc_some_tree.nd rfl rfl (sw_true rfl rfl rfl (by decide +kernel)) (pi_range1 (by rfl) B.range (pa_cons (pe_ix (ix_tupK (K := K) rfl) (pv 1) pe_int (fun _ _ => rfl)) pa_nil)) (blkOk_by (N := ["_law_tape_here", "_law_family_here", "_law_room", "_law_sizes_here", "_law_state", "_law_small"]) (sc := defScope s_some_tree) (by decide +kernel)) (fun _ _ _ _ _ => pg_name (i := 4) sc_some_tree.nd rfl (Or.inl rfl)) (fun _ _ _ _ _ => pts_one (PW.pt (pw_and (pt_cmpR o_notN (pe_ix (ix_listK (K := K) rfl) (pv 3) (pv 4) (fun _ _ => rfl)) pe_non (nomark _)) (pw_and1 (pt_cmpR op_le (pe_ix (ix_listK (K := K) rfl) (pv 3) (pv 4) (fun _ _ => rfl)) pe_int (nomark _)))))) (fun _ _ _ _ _ => (pv 4)))
    (pss_cons (ps_if (pt_not (p_truth (pv 5) (by intro _; rfl)))
    (pss_one (ps_ret (pe_tup (pa_cons pe_int (pa_cons (pe_tup pa_nil) pa_nil)))))
    pss_nil)
    (pss_cons (ps_set (i := 4) sc_some_tree.nd rfl (Or.inl rfl) (pe_ix (ix_listK (K := K) rfl) (pv 5) (pe_cal C_draw hr (by decide) (by rfl) (pa_cons (pv 0) (pa_cons (pe_callB (c_lenK (K := K) rfl) (by rfl) B.len PySem.boot_len (pa_cons (pv 5) pa_nil)) pa_nil))) (fun _ _ => rfl)))
    (pss_one (ps_ret (pe_tup (pa_cons (pv 4) (pa_cons (pe_cal C_tree hr (by decide) (by rfl) (pa_cons (pv 0) (pa_cons (pv 1) (pa_cons (pv 3) (pa_cons (pv 4) (pa_cons (pv 2) pa_nil)))))) pa_nil))))))))), ?_⟩
  walk_at "go"
  refine ⟨f, n, F, rfl, hF, ok, fun l S H1 e1 hl hS so => ?_⟩
  have h1b := e1 _ _ h1
  have hSl := so.len
  walk_at "go"
  refine ⟨(n : Int), rfl, by omega, by omega, fun d hd => lc_range (lo := 0) (n := n) (fun i H' => ∃ ls : List Nat, Ex H1 H' ∧ H' d = some (.lst (ls.map nV)) ∧ ls.length ≤ i ∧ ∀ k ∈ ls, ∃ m, tg S k = some m ∧ m ≤ 100) ⟨[], Evl.Ex.new hd, upd_same, Nat.le_refl 0, (fun k hk => nomatch hk)⟩ (fun i H' hi p => ?_) (fun H' p => ?_)⟩
  · obtain ⟨ls, e, hD, hll, hls⟩ := p
    have hSb := e _ _ hS
    have ei : (0 : Int) + (i : Int) = (i : Int) := Int.zero_add _
    have hg := oV_get (T := S) (s := i) (by omega)
    rw [ei]
    walk_at "go"
    refine ⟨rfl, ?_⟩
    walk_at "go"
    rw [oV_dec]
    have few : (ls.map nV).length < sizeLine := by
      rw [List.length_map]
      exact small1000 (by omega)
    cases hx : tg S i with
    | none =>
      refine iteF ?_
      refine iteF ?_
      exact ⟨ls, e, hD, by omega, hls⟩
    | some m =>
      refine iteT ?_
      have hg : (S.map oV)[i]? = some (.int m) := by
        rw [hg, hx]
        rfl
      walk_at "go"
      refine ite2 (fun z => ?_) (fun z => ?_)
      · walk_at "go"
        refine ⟨_, hD, few, ls ++ [i], Evl.Ex.mut e hd, ?_, ?_, fun k hk => ?_⟩
        · rw [upd_same, List.map_append]
          rfl
        · rw [List.length_append]
          simp only [List.length_singleton]
          omega
        · rcases List.mem_append.mp hk with hk | hk
          · exact hls k hk
          · rw [List.mem_singleton.mp hk]
            exact ⟨m, hx, of_decide_eq_true z⟩
      · exact ⟨ls, e, hD, by omega, hls⟩
  obtain ⟨ls, e, hD, hll, hls⟩ := p
  have e2 := e1.trans e
  have hS2 := e _ _ hS
  walk_at "go"
  refine ite2 (fun z => ?_) (fun z => ?_)
  · walk_at "go"
    refine ⟨lenOk (n := 0) rfl, fun p hp => ?_⟩
    walk_at "go"
    refine ⟨lenOk (n := 2) rfl, fun p2 hp2 => ?_⟩
    refine q p2 p 0 [] _ (((Ex.go e2).trans (Go.new hp)).trans (Go.new hp2)) upd_same ?_ (.inl rfl)
    rw [upd_ne (ne_of_none upd_same hp2), upd_same]
    rfl
  · have hlen : 1 ≤ ls.length := by
      cases ls with
      | nil => exact absurd rfl z
      | cons c d =>
        rw [List.length_cons]
        omega
    walk_at "go"
    refine ⟨t, _, rfl, Ex.tp e2 hT, by rw [List.length_map]; omega, by rw [List.length_map]; omega, fun rd H2 g4 hrd0 hrdl => ?_⟩
    rw [List.length_map] at hrdl
    have hrl : rd.toNat < ls.length := by omega
    have hk : ls[rd.toNat]? = some ls[rd.toNat] := List.getElem?_eq_getElem hrl
    generalize ls[rd.toNat] = k at hk
    have hka : atI (ls.map nV) rd = some (nV k) := at_of (j := rd.toNat) (by omega) (nV_get hk)
    have dt : d ≠ t := (Ex.tp e1 hT).ne hd
    have lt : l ≠ t := hT.ne hl
    refine w_ixL (g4.at_ hD dt) hka ?_
    have g5 := (Ex.go e2 : Go t _ _).trans g4
    walk_at "go"
    refine ⟨t, f, l, n, F, S, k, room, rfl, g5.tp hT, lt, hF.mono g5.te, ok, g4.at_ hS2 lt, so, hls k (List.mem_of_getElem? hk), hr0, hr40, fun qa T H3 g6 hqa hfo hTl => ?_⟩
    walk_at "go"
    refine ⟨lenOk (n := 2) rfl, fun p2 hp2 => ?_⟩
    refine q p2 qa k T _ ((g5.trans g6).trans (Go.new hp2)) upd_same ?_ (.inr ⟨hfo, hTl⟩)
    rw [upd_ne (ne_of_none hqa hp2)]
    exact hqa
theorem ok_price_table (Fn : Fun K "_law_price_table" "_law_price_table" s_price_table f fd) (B : Bi mg) (C_draw : Cal P w K mg base "_law_draw" ["_law_tape_here", "_law_menu"] 1 spDraw) (C_moved : Cal P w K mg base "_law_moved" ["_law_tape_here", "_law_family_here", "_law_sign"] 2 spMoved)
    (C_extreme : Cal P w K mg base "_law_extreme" ["_law_family_here", "_law_sign"] 2 spExtreme) : FnOk P w K mg base CX0 3 f fd ["_law_tape_here", "_law_family_here", "_law_sign"] spTable := by
  refine Fn.ok sc_price_table (fun vs H Q E h => ?_) (fun cdv A outer s H vs Q E hr h => ?_)
  · obtain ⟨t, f, n, F, sg, rfl, _⟩ := h
    rfl
  obtain ⟨t, f, n, F, sg, rfl, hT, hF, ok, hs, q⟩ := h
  obtain ⟨r, va, xs, h1, h2, h3⟩ := id hF
  have hsg : -(2 ^ 64) < sg ∧ sg < 2 ^ 64 := by rcases hs with rfl | rfl <;> exact ⟨by decide, by decide⟩
  have hn4 := ok.top
  have hn1 := ok.pos
  refine ⟨_, (pss_cons (ps_set (i := 3) sc_price_table.nd rfl (Or.inl rfl) (pe_cal C_draw hr (by decide) (by rfl) (pa_cons (pv 0) (pa_cons pe_int pa_nil))))
    (pss_cons (ps_set (i := 4) sc_price_table.nd rfl (Or.inl rfl) (pe_ix (ix_listK (K := K) rfl) (pe_lst (pa_cons pe_int (pa_cons pe_int (pa_cons (pe_op op_pow pe_int pe_int) pa_nil)))) (pe_cal C_draw hr (by decide) (by rfl) (pa_cons (pv 0) (pa_cons pe_int pa_nil))) (fun _ _ => rfl)))
    (pss_cons (ps_set (i := 5) sc_price_table.nd rfl (Or.inl rfl) (pe_ix (ix_listK (K := K) rfl) (pe_lst (pa_cons pe_int (pa_cons pe_int (pa_cons pe_int (pa_cons (pe_op op_mulW (pe_op op_pow pe_int pe_int) (pe_op op_pow pe_int pe_int)) pa_nil))))) (pe_cal C_draw hr (by decide) (by rfl) (pa_cons (pv 0) (pa_cons pe_int pa_nil))) (fun _ _ => rfl)))
    (pss_cons (ps_set (i := 6) sc_price_table.nd rfl (Or.inl rfl) pe_non)
    (Evl.pss_cut (ps_if (pt_cmpR op_lt (pv 3) pe_int (nomark _))
    (pss_one (ps_set (i := 6) sc_price_table.nd rfl (Or.inl rfl) (pe_cal C_extreme hr (by decide) (by rfl) (pa_cons (pe_cal C_moved hr (by decide) (by rfl) (pa_cons (pv 0) (pa_cons (pv 1) (pa_cons (pv 2) pa_nil)))) (pa_cons (pv 2) pa_nil)))))
    pss_nil)
    (Evl.pss_cut (ps_if (pt_cmpR o_isN (pv 6) pe_non (nomark _))
    (pss_cons (ps_set (i := 6) sc_price_table.nd rfl (Or.inl rfl) (pe_lst pa_nil))
      (pss_one (ps_for PassesOwn.never rfl (pi_range1 (by rfl) B.range (pa_cons (pe_ix (ix_tupK (K := K) rfl) (pv 1) pe_int (fun _ _ => rfl)) pa_nil)) (pg_name (i := 7) sc_price_table.nd rfl (Or.inl rfl))
      (pss_cons (ps_set (i := 8) sc_price_table.nd rfl (Or.inl rfl) (pe_op op_mul (pe_op op_sub (pe_cal C_draw hr (by decide) (by rfl) (pa_cons (pv 0) (pa_cons (pv 4) pa_nil))) (pe_cal C_draw hr (by decide) (by rfl) (pa_cons (pv 0) (pa_cons (pv 4) pa_nil)))) (pv 5)))
        (pss_one (ps_expr (pe_bm PySem.F.plainAttrs_list PySem.F.slot_list_append PySem.F.type_list_append mt_append (pv 6) (pa_cons (pe_ix (ix_listK (K := K) rfl) (pe_lst (pa_cons (pv 8) (pa_cons (pv 8) (pa_cons (pv 8) (pa_cons pe_non pa_nil))))) (pe_cal C_draw hr (by decide) (by rfl) (pa_cons (pv 0) (pa_cons pe_int pa_nil))) (fun _ _ => rfl)) pa_nil))))))))
    pss_nil)
    (Evl.pss_cut (ps_if (pt_cmpR op_eq (pv 3) pe_int (nomark _))
    (pss_cons (ps_set (i := 9) sc_price_table.nd rfl (Or.inl rfl) (pe_cal C_draw hr (by decide) (by rfl) (pa_cons (pv 0) (pa_cons (pe_ix (ix_tupK (K := K) rfl) (pv 1) pe_int (fun _ _ => rfl)) pa_nil))))
      (pss_one (ps_if (pt_cmpR o_isN (pe_ix (ix_listK (K := K) rfl) (pv 6) (pv 9) (fun _ _ => rfl)) pe_non (nomark _))
      (pss_one (ps_asg (pe_cal C_draw hr (by decide) (by rfl) (pa_cons (pv 0) (pa_cons (pv 4) pa_nil))) (pg_sub (pv 6) (pv 9) set_list)))
      (pss_one (ps_asg (pe_ix (ix_listK (K := K) rfl) (pe_lst (pa_cons (pe_op op_add (pe_ix (ix_listK (K := K) rfl) (pv 6) (pv 9) (fun _ _ => rfl)) pe_int) (pa_cons (pe_op op_sub (pe_ix (ix_listK (K := K) rfl) (pv 6) (pv 9) (fun _ _ => rfl)) pe_int) (pa_cons (pe_op op_add (pe_ix (ix_listK (K := K) rfl) (pv 6) (pv 9) (fun _ _ => rfl)) (pe_op op_mul (pv 2) (pv 4))) (pa_cons pe_non pa_nil))))) (pe_cal C_draw hr (by decide) (by rfl) (pa_cons (pv 0) (pa_cons pe_int pa_nil))) (fun _ _ => rfl)) (pg_sub (pv 6) (pv 9) set_list))))))
    pss_nil)
    (pss_one (ps_ret (pe_callTy (c_tupleK (K := K) rfl) (by rfl) B.tuple PyProof.Rows.boot_tuple (pa_cons (pv 6) pa_nil))))))))))), ?_⟩
  walk_at "go"
  refine ⟨t, 3, rfl, hT, by decide, by decide, fun ch H1 g1 hch0 hch3 => ?_⟩
  walk_at "go"
  refine ⟨lenOk (n := 3) rfl, fun p1 hp1 => ?_⟩
  have g2 := g1.trans (Go.new (t := t) (o := .lst [.int 3, .int 10, .int (10 ^ (9 : Int).toNat)]) hp1)
  have hp1t : p1 ≠ t := (g1.tp hT).ne hp1
  walk_at "go"
  refine ⟨t, 3, rfl, g2.tp hT, by decide, by decide, fun r2 H2 g3 hr20 hr21 => ?_⟩
  obtain ⟨top, ⟨ht1, ht2⟩, htop⟩ := menu (l := [3, 10, 10 ^ (9 : Int).toNat]) (fun c => 1 ≤ c ∧ c < 1073741824) (by decide +kernel) hr20 hr21
  refine w_ixL (g3.at_ upd_same hp1t) htop ?_
  have g4 := g2.trans g3
  walk_at "go"
  refine ⟨lenOk (n := 4) rfl, fun p2 hp2 => ?_⟩
  generalize hfa : ((10 : Int) ^ (60 : Int).toNat * 10 ^ (29 : Int).toNat) = big
  have g5 := g4.trans (Go.new (t := t) (o := .lst [.int 1, .int 1, .int 1, .int big]) hp2)
  have hp2t : p2 ≠ t := (g4.tp hT).ne hp2
  walk_at "go"
  refine ⟨t, 4, rfl, g5.tp hT, by decide, by decide, fun r3 H3 g6 hr30 hr31 => ?_⟩
  obtain ⟨fac, _, hfac⟩ := menu (l := [1, 1, 1, big]) (fun c => True) (fun _ _ => trivial) hr30 hr31
  refine w_ixL (g6.at_ upd_same hp2t) hfac ?_
  have g7 := g5.trans g6
  walk_at "go"
  refine w_cutS (Mid := fun σ' H' => ∃ x6, σ' = [some (.ref t), some (.ref f), some (.int sg), some (.int ch), some (.int top), some (.int fac), some x6, none, none, none] ∧ Go t H H' ∧ (x6 = .non ∨ ∃ l T, x6 = .ref l ∧ H l = none ∧ H' l = some (lstO T) ∧ T.length = n)) ?_ fun σ' H' hmid => ?_
  · walk_at "go"
    refine ite2 (fun e => ?_) (fun e => ?_)
    · walk_at "go"
      refine ⟨t, f, n, F, sg, rfl, g7.tp hT, hF.mono g7.te, ok, hs, fun f2 G H4 g8 hG okG => ?_⟩
      have g9 := g7.trans g8
      walk_at "go"
      refine ⟨f2, n, G, sg, rfl, hG, okG, hs, fun l T H5 e5 hl hlT hTl => ?_, fun H5 e5 => ?_⟩
      · walk_at "go"
        exact ⟨_, rfl, g9.trans (Ex.go e5), .inr ⟨l, T, rfl, g9.back hT hl, hlT, hTl⟩⟩
      · walk_at "go"
        exact ⟨_, rfl, g9.trans (Ex.go e5), .inl rfl⟩
    · walk_at "go"
      exact ⟨_, rfl, g7, .inl rfl⟩
  obtain ⟨x6, rfl, g8, hx6⟩ := hmid
  refine w_cutS (Mid := fun σ' H' => ∃ l T x7 x8, σ' = [some (.ref t), some (.ref f), some (.int sg), some (.int ch), some (.int top), some (.int fac), some (.ref l), x7, x8, none] ∧ Go t H H' ∧ H l = none ∧ H' l = some (lstO T) ∧ T.length = n) ?_ fun σ' H' hmid => ?_
  · walk_at "go"
    rcases hx6 with rfl | ⟨l, T, rfl, hl, hlT, hTl⟩
    · refine iteT ?_
      walk_at "go"
      refine ⟨lenOk (n := 0) rfl, fun l hl => ?_⟩
      have hl0 := g8.back hT hl
      have g9 := g8.trans (Go.new (t := t) (o := .lst []) hl)
      have h1b := g9.te _ _ h1
      have hlt : l ≠ t := hT.ne hl0
      walk_at "go"
      refine ⟨(n : Int), rfl, by omega, by omega, for_range (lo := 0) (n := n) (fun i σ H' => ∃ T x7 x8, σ = [some (.ref t), some (.ref f), some (.int sg), some (.int ch), some (.int top), some (.int fac), some (.ref l), x7, x8, none] ∧ Go t H H' ∧ H' l = some (lstO T) ∧ T.length = i)
        ⟨[], _, _, rfl, g9, upd_same, rfl⟩ (fun i σ H' hi p => ?_) (fun σ H' p => ?_)⟩
      · obtain ⟨T, x7, x8, rfl, g, hlT, hTl⟩ := p
        walk_at "go"
        refine ⟨t, top, rfl, g.tp hT, ht1, ht2, fun d1 H4 g10 hd1 hd2 => ?_⟩
        have g11 := g.trans g10
        walk_at "go"
        refine ⟨t, top, rfl, g11.tp hT, ht1, ht2, fun d2 H5 g12 hd3 hd4 => ?_⟩
        have g13 := g11.trans g12
        walk_at "go"
        generalize hz : (d1 - d2) * fac = z
        have hlT2 := (g10.trans g12).at_ hlT hlt
        walk_at "go"
        refine ⟨lenOk (n := 4) rfl, fun p3 hp3 => ?_⟩
        have g14 := g13.trans (Go.new (t := t) (o := .lst [.int z, .int z, .int z, .non]) hp3)
        have hp3t : p3 ≠ t := (g13.tp hT).ne hp3
        have hlp3 : l ≠ p3 := ne_of_none hlT2 hp3
        walk_at "go"
        refine ⟨t, 4, rfl, g14.tp hT, by decide, by decide, fun r4 H6 g15 hr40 hr41 => ?_⟩
        obtain ⟨o, ho⟩ := menuO (l := [some z, some z, some z, none]) hr40 hr41
        refine w_ixL (g15.at_ upd_same hp3t) ho ?_
        have hlT3 : H6 l = some (lstO T) := g15.at_ (by rw [upd_ne hlp3]; exact hlT2) hlt
        walk_at "go"
        refine w_app hlT3 ?_ ?_
        · rw [List.length_map, hTl]
          exact small1000 (by omega)
        walk_at "go"
        refine ⟨T ++ [o], _, _, rfl, (g14.trans g15).mut hl0, ?_, ?_⟩
        · rw [upd_same]
          unfold lstO
          rw [List.map_append]
          rfl
        · rw [List.length_append, hTl]
          rfl
      · obtain ⟨T, x7, x8, rfl, g, hlT, hTl⟩ := p
        walk_at "go"
        exact ⟨l, T, _, _, rfl, g, hl0, hlT, hTl⟩
    · rw [ref_dec]
      refine iteF ?_
      walk_at "go"
      exact ⟨l, T, _, _, rfl, g8, hl, hlT, hTl⟩
  obtain ⟨l, T, x7, x8, rfl, g9, hl, hlT, hTl⟩ := hmid
  have hlt : l ≠ t := hT.ne hl
  refine w_cutS (Mid := fun σ' H' => ∃ T x9, σ' = [some (.ref t), some (.ref f), some (.int sg), some (.int ch), some (.int top), some (.int fac), some (.ref l), x7, x8, x9] ∧ Go t H H' ∧ H' l = some (lstO T) ∧ T.length = n) ?_ fun σ' H' hmid => ?_
  · walk_at "go"
    refine ite2 (fun e => ?_) (fun e => ?_)
    · have h1b := g9.te _ _ h1
      walk_at "go"
      refine ⟨t, (n : Int), rfl, g9.tp hT, by omega, by omega, fun pl H4 g10 hpl0 hpl1 => ?_⟩
      have g11 := g9.trans g10
      have hlT2 := g10.at_ hlT hlt
      have hpn : pl.toNat < T.length := by omega
      have epl : pl = ((pl.toNat : Nat) : Int) := by omega
      generalize hpk : pl.toNat = k at *
      subst epl
      have hg := oV_get hpn
      have hix : ixN (T.map oV).length ((k : Nat) : Int) = some k := ix_nat (by rw [List.length_map]; exact hpn)
      have store : ∀ o, (lstO (T.set k o)) = .lst ((T.map oV).set k (oV o)) := fun o => by
        unfold lstO
        rw [List.map_set]
      walk_at "go"
      rw [oV_dec]
      cases hx : tg T k with
      | none =>
        refine iteT ?_
        walk_at "go"
        refine ⟨t, top, rfl, g11.tp hT, ht1, ht2, fun d1 H5 g12 _ _ => ?_⟩
        have hlT3 := g12.at_ hlT2 hlt
        walk_at "go"
        exact ⟨T.set k (some d1), _, rfl, (g11.trans g12).mut hl, by rw [upd_same, store]; rfl, by rw [List.length_set]; exact hTl⟩
      | some y =>
        refine iteF ?_
        have hg : (T.map oV)[k]? = some (.int y) := by
          rw [hg, hx]
          rfl
        walk_at "go"
        refine ⟨lenOk (n := 4) rfl, fun p3 hp3 => ?_⟩
        have g14 := g11.trans (Go.new (t := t) (o := .lst [.int (y + 1), .int (y - 1), .int (y + sg * top), .non]) hp3)
        have hp3t : p3 ≠ t := (g11.tp hT).ne hp3
        have hlp3 : l ≠ p3 := ne_of_none hlT2 hp3
        walk_at "go"
        refine ⟨t, 4, rfl, g14.tp hT, by decide, by decide, fun r4 H6 g15 hr40 hr41 => ?_⟩
        obtain ⟨o, ho⟩ := menuO (l := [some (y + 1), some (y - 1), some (y + sg * top), none]) hr40 hr41
        refine w_ixL (g15.at_ upd_same hp3t) ho ?_
        have hlT3 : H6 l = some (lstO T) := g15.at_ (by rw [upd_ne hlp3]; exact hlT2) hlt
        walk_at "go"
        exact ⟨T.set k o, _, rfl, (g14.trans g15).mut hl, by rw [upd_same, store], by rw [List.length_set]; exact hTl⟩
    · walk_at "go"
      exact ⟨T, _, rfl, g9, hlT, hTl⟩
  obtain ⟨T, x9, rfl, g10, hlT, hTl⟩ := hmid
  walk_at "go"
  refine w_tuple hlT fun y hy => ?_
  exact q y T _ (g10.trans (Go.new hy)) upd_same hTl
/-- rows of variants, made so far -/
structure Rows (n : Nat) (H : Hp) (rs : List V) (G : List Vr) : Prop where
  pair : Paired (VrAt H) rs G
  ok : ∀ u ∈ G, VrOk n u
  bd : Bounded G
theorem Rows.mono {n : Nat} {H H' : Hp} (h : TE H H') {rs : List V} {G : List Vr} (r : Rows n H rs G) : Rows n H' rs G := ⟨pair_mono h r.pair, r.ok, r.bd⟩
theorem Rows.cat {n : Nat} {H : Hp} {rs rs2 : List V} {G G2 : List Vr} (r : Rows n H rs G) (s : Rows n H rs2 G2) : Rows n H (rs ++ rs2) (G ++ G2) :=
  ⟨pair_app r.pair s.pair, fun u hu => (List.mem_append.mp hu).elim (r.ok u) (s.ok u), fun u hu => (List.mem_append.mp hu).elim (r.bd u) (s.bd u)⟩
theorem Rows.take {n : Nat} {H : Hp} {rs : List V} {G : List Vr} (k : Nat) (r : Rows n H rs G) : Rows n H (rs.take k) (G.take k) :=
  ⟨pair_take k r.pair, fun u hu => r.ok u (List.mem_of_mem_take hu), fun u hu => r.bd u (List.mem_of_mem_take hu)⟩
theorem Rows.drop {n : Nat} {H : Hp} {rs : List V} {G : List Vr} (k : Nat) (r : Rows n H rs G) : Rows n H (rs.drop k) (G.drop k) :=
  ⟨pair_drop k r.pair, fun u hu => r.ok u (List.mem_of_mem_drop hu), fun u hu => r.bd u (List.mem_of_mem_drop hu)⟩
theorem Rows.one {n : Nat} {H : Hp} {x : V} {v : Vr} (h : VrAt H x v) (o : VrOk n v) (b : ∀ i, v.price = some i → -1000000000 ≤ i ∧ i ≤ 1000000000) : Rows n H [x] [v] :=
  ⟨pair_one h, fun u hu => by rw [List.mem_singleton.mp hu]; exact o, fun u hu => by rw [List.mem_singleton.mp hu]; exact b⟩
theorem Rows.len {n : Nat} {H : Hp} {rs : List V} {G : List Vr} (r : Rows n H rs G) : rs.length = G.length := pair_len r.pair
theorem ok_family (Fn : Fun K "_law_family" "_law_family" s_family f fd) (B : Bi mg) (C_draw : Cal P w K mg base "_law_draw" ["_law_tape_here", "_law_menu"] 1 spDraw) (C_price : Cal P w K mg base "_law_price" ["_law_tape_here", "_law_mode", "_law_low"] 2 spPrice) :
    FnOk P w K mg base CX0 3 f fd ["_law_tape_here", "_law_states", "_law_variants", "_law_low"] spFamily := by
  refine Fn.ok sc_family (fun vs H Q E h => ?_) (fun cdv A outer s H vs Q E hr h => ?_)
  · obtain ⟨t, l, rfl, _⟩ := h
    rfl
  obtain ⟨t, low, rfl, hT, q⟩ := h
  refine ⟨_, (pss_cons (ps_set (i := 4) sc_family.nd rfl (Or.inl rfl) (pe_op op_add pe_int (pe_cal C_draw hr (by decide) (by rfl) (pa_cons (pv 0) (pa_cons (pv 1) pa_nil)))))
    (pss_cons (ps_set (i := 5) sc_family.nd rfl (Or.inl rfl) (pe_cal C_draw hr (by decide) (by rfl) (pa_cons (pv 0) (pa_cons pe_int pa_nil))))
    (pss_cons (ps_set (i := 6) sc_family.nd rfl (Or.inl rfl) (pe_cal C_draw hr (by decide) (by rfl) (pa_cons (pv 0) (pa_cons pe_int pa_nil))))
    (pss_cons (ps_set (i := 7) sc_family.nd rfl (Or.inl rfl) (pe_lst pa_nil))
    (pss_cons (ps_for PassesOwn.never rfl (pi_range1 (by rfl) B.range (pa_cons (pe_cal C_draw hr (by decide) (by rfl) (pa_cons (pv 0) (pa_cons (pe_op op_add (pv 2) pe_int) pa_nil))) pa_nil)) (pg_name (i := 8) sc_family.nd rfl (Or.inl rfl))
    (pss_cons (ps_set (i := 9) sc_family.nd rfl (Or.inl rfl) (pe_cal C_draw hr (by decide) (by rfl) (pa_cons (pv 0) (pa_cons (pv 4) pa_nil))))
      (pss_cons (ps_set (i := 10) sc_family.nd rfl (Or.inl rfl) (pe_lst pa_nil))
      (pss_cons (ps_for PassesOwn.never rfl (pi_range1 (by rfl) B.range (pa_cons (pe_ix (ix_listK (K := K) rfl) (pe_lst (pa_cons pe_int (pa_cons pe_int (pa_cons pe_int (pa_cons pe_int (pa_cons pe_int (pa_cons pe_int pa_nil))))))) (pe_cal C_draw hr (by decide) (by rfl) (pa_cons (pv 0) (pa_cons pe_int pa_nil))) (fun _ _ => rfl)) pa_nil)) (pg_name (i := 11) sc_family.nd rfl (Or.inl rfl))
      (pss_cons (ps_set (i := 12) sc_family.nd rfl (Or.inl rfl) (pe_cal C_draw hr (by decide) (by rfl) (pa_cons (pv 0) (pa_cons (pv 4) pa_nil))))
        (Evl.pss_cut (ps_if (pt_cmpR op_eq (pv 5) pe_int (nomark _))
        (pss_one (ps_set (i := 12) sc_family.nd rfl (Or.inl rfl) (pe_op op_add (pe_op op_add (pv 9) pe_int) (pv 12))))
        pss_nil)
        (Evl.pss_cut (ps_if (pt_cmpR op_eq (pv 5) pe_int (nomark _))
        (pss_one (ps_set (i := 12) sc_family.nd rfl (Or.inl rfl) (pe_op op_sub (pe_op op_sub (pv 9) pe_int) (pv 12))))
        pss_nil)
        (pss_one (ps_if (PW.pt (pw_and (pt_cmpR op_le pe_int (pv 12) (nomark _)) (pw_and1 (pt_cmpR op_lt (pv 12) (pv 4) (nomark _)))))
        (pss_one (ps_expr (pe_bm PySem.F.plainAttrs_list PySem.F.slot_list_append PySem.F.type_list_append mt_append (pv 10) (pa_cons (pv 12) pa_nil))))
        pss_nil))))))
      (pss_cons (ps_set (i := 13) sc_family.nd rfl (Or.inl rfl) (pe_tup (pa_cons (pv 9) (pa_cons (pe_callTy (c_tupleK (K := K) rfl) (by rfl) B.tuple PyProof.Rows.boot_tuple (pa_cons (pv 10) pa_nil)) (pa_cons (pe_cal C_price hr (by decide) (by rfl) (pa_cons (pv 0) (pa_cons (pv 6) (pa_cons (pv 3) pa_nil)))) pa_nil)))))
      (Evl.pss_cut (ps_if (PW.pt (pw_and (p_truth (pv 7) (by intro _; rfl)) (pw_and1 (pt_cmpR op_eq (pe_cal C_draw hr (by decide) (by rfl) (pa_cons (pv 0) (pa_cons pe_int pa_nil))) pe_int (nomark _)))))
      (pss_one (ps_set (i := 13) sc_family.nd rfl (Or.inl rfl) (pe_ix (ix_listK (K := K) rfl) (pv 7) (pe_cal C_draw hr (by decide) (by rfl) (pa_cons (pv 0) (pa_cons (pe_callB (c_lenK (K := K) rfl) (by rfl) B.len PySem.boot_len (pa_cons (pv 7) pa_nil)) pa_nil))) (fun _ _ => rfl))))
      pss_nil)
      (pss_one (ps_expr (pe_bm PySem.F.plainAttrs_list PySem.F.slot_list_append PySem.F.type_list_append mt_append (pv 7) (pa_cons (pv 13) pa_nil))))))))))
    (Evl.pss_cut (ps_if (pt_cmpR op_eq (pe_cal C_draw hr (by decide) (by rfl) (pa_cons (pv 0) (pa_cons pe_int pa_nil))) pe_int (nomark _))
    (pss_one (ps_for PassesOwn.never rfl (pi_range1 (by rfl) B.range (pa_cons (pv 4) pa_nil)) (pg_name (i := 14) sc_family.nd rfl (Or.inl rfl))
      (pss_one (ps_expr (pe_bm PySem.F.plainAttrs_list PySem.F.slot_list_insert PySem.F.type_list_insert m_insert (pv 7) (pa_cons (pe_cal C_draw hr (by decide) (by rfl) (pa_cons (pv 0) (pa_cons (pe_op op_add (pe_callB (c_lenK (K := K) rfl) (by rfl) B.len PySem.boot_len (pa_cons (pv 7) pa_nil)) pe_int) pa_nil))) (pa_cons (pe_tup (pa_cons (pv 14) (pa_cons (pe_tup pa_nil) (pa_cons (pe_cal C_price hr (by decide) (by rfl) (pa_cons (pv 0) (pa_cons (pv 6) (pa_cons (pv 3) pa_nil)))) pa_nil)))) pa_nil)))))))
    pss_nil)
    (pss_cons (ps_setLc (i := 15) (own := [("_law_state", 14)]) (g := gName 14) rfl sc_family.nd rfl rfl (sw_true rfl rfl rfl (by decide +kernel)) (pi_range1 (by rfl) B.range (pa_cons (pv 4) pa_nil)) (blkOk_by (N := ["_law_tape_here", "_law_states", "_law_variants", "_law_low", "_law_count", "_law_shape", "_law_mode", "_law_rows", "_law_k", "_law_plug", "_law_slots", "_law_j", "_law_goal", "_law_row", "_law_state", "_law_roots"]) (sc := defScope s_family) (by decide +kernel)) (fun _ _ _ _ _ => pg_name (i := 14) sc_family.nd rfl (Or.inl rfl)) (fun _ _ _ _ _ => pts_one (pt_cmpR op_gt (pe_cal C_draw hr (by decide) (by rfl) (pa_cons (pv 0) (pa_cons pe_int pa_nil))) pe_int (nomark _))) (fun _ _ _ _ _ => (pv 14)))
    (Evl.pss_cut (ps_if (PW.pt (pw_and (pt_not (p_truth (pv 15) (by intro _; rfl))) (pw_and1 (pt_cmpR op_gt (pe_cal C_draw hr (by decide) (by rfl) (pa_cons (pv 0) (pa_cons pe_int pa_nil))) pe_int (nomark _)))))
    (pss_one (ps_set (i := 15) sc_family.nd rfl (Or.inl rfl) (pe_lst (pa_cons (pe_cal C_draw hr (by decide) (by rfl) (pa_cons (pv 0) (pa_cons (pv 4) pa_nil))) pa_nil))))
    pss_nil)
    (pss_one (ps_ret (pe_tup (pa_cons (pv 4) (pa_cons (pe_callTy (c_tupleK (K := K) rfl) (by rfl) B.tuple PyProof.Rows.boot_tuple (pa_cons (pv 15) pa_nil)) (pa_cons (pe_callTy (c_tupleK (K := K) rfl) (by rfl) B.tuple PyProof.Rows.boot_tuple (pa_cons (pv 7) pa_nil)) pa_nil)))))))))))))), ?_⟩
  walk_at "go"
  refine ⟨t, 4, rfl, hT, by decide, by decide, fun c0 H1 g1 hc0 hc4 => ?_⟩
  walk_at "go"
  refine ⟨t, 8, rfl, g1.tp hT, by decide, by decide, fun sh H2 g2 _ _ => ?_⟩
  have g3 := g1.trans g2
  walk_at "go"
  refine ⟨t, 4, rfl, g3.tp hT, by decide, by decide, fun md H3 g4 hmd0 hmd4 => ?_⟩
  have g5 := g3.trans g4
  obtain ⟨n, hn⟩ : ∃ n : Nat, 1 + c0 = (n : Int) := ⟨(1 + c0).toNat, by omega⟩
  rw [hn]
  have hn1 : 1 ≤ n := by omega
  have hn4 : n ≤ 4 := by omega
  walk_at "go"
  refine ⟨lenOk (n := 0) rfl, fun p hp => ?_⟩
  have g6 := g5.trans (Go.new (t := t) (o := .lst []) hp)
  have hp0 : H p = none := g5.back hT hp
  have ptt : p ≠ t := hT.ne hp0
  have hpe : (upd H3 p (.lst [])) p = some (.lst []) := upd_same
  walk_at "go"
  refine ⟨t, 8 + 1, rfl, g6.tp hT, by decide, by decide, fun k9 H4 g7 hk0 hk9 => ?_⟩
  have g8 := g6.trans g7
  have hpe4 := g7.at_ hpe ptt
  walk_at "go"
  refine ⟨k9, rfl, by omega, by omega, for_range (lo := 0) (n := k9.toNat) (fun i σ H' => ∃ x8 x9 x10 x11 x12 x13 x14 x15 rs G, σ = [some (.ref t), some (.int 4), some (.int 8), some (.int low), some (nV n), some (.int sh), some (.int md), some (.ref p), x8, x9, x10, x11, x12, x13, x14, x15] ∧ Go t H H' ∧ H' p = some (.lst rs) ∧ Rows n H' rs G ∧ G.length = i)
    ⟨_, _, _, _, _, _, _, _, [], [], rfl, g8, hpe4, ⟨.nil, (fun u hu => nomatch hu), (fun u hu => nomatch hu)⟩, rfl⟩ (fun i σ H' hi p => ?_) (fun σ H' p => ?_)⟩
  · obtain ⟨x8, x9, x10, x11, x12, x13, x14, x15, rs, G, rfl, g, hrs, hR, hGl⟩ := p
    walk_at "go"
    refine ⟨t, (n : Int), rfl, g.tp hT, by omega, by omega, fun pl H5 g9 hpl0 hpln => ?_⟩
    have g10 := g.trans g9
    obtain ⟨pn, rfl⟩ : ∃ pn : Nat, pl = (pn : Int) := ⟨pl.toNat, by omega⟩
    walk_at "go"
    refine ⟨lenOk (n := 0) rfl, fun sl hsl => ?_⟩
    have hsl0 : H sl = none := g10.back hT hsl
    have hsl1 : H' sl = none := g9.back (g.tp hT) hsl
    have slt : sl ≠ t := hT.ne hsl0
    have g11 := g9.trans (Go.new (t := t) (o := .lst []) hsl)
    walk_at "go"
    refine ⟨lenOk (n := 6) rfl, fun p1 hp1 => ?_⟩
    have hsle : (upd H5 sl (.lst [])) sl = some (.lst []) := upd_same
    have sp1 : sl ≠ p1 := ne_of_none hsle hp1
    have g12 := g11.trans (Go.new (t := t) (o := .lst [.int 0, .int 1, .int 1, .int 2, .int 2, .int 3]) hp1)
    have hp1t : p1 ≠ t := ((g.trans g11).tp hT).ne hp1
    walk_at "go"
    refine ⟨t, 6, rfl, (g.trans g12).tp hT, by decide, by decide, fun r6 H6 g13 hr60 hr61 => ?_⟩
    obtain ⟨m, ⟨hm0, hm3⟩, hm⟩ := menu (l := [0, 1, 1, 2, 2, 3]) (fun c => 0 ≤ c ∧ c ≤ 3) (by decide) hr60 hr61
    refine w_ixL (g13.at_ upd_same hp1t) hm ?_
    have g14 := g12.trans g13
    have hsl6 : H6 sl = some (.lst []) := g13.at_ (by rw [upd_ne sp1]; exact hsle) slt
    walk_at "go"
    refine ⟨m, rfl, by omega, by omega, for_range (lo := 0) (n := m.toNat) (fun j σ H'' => ∃ x11 x12 ss, σ = [some (.ref t), some (.int 4), some (.int 8), some (.int low), some (nV n), some (.int sh), some (.int md), some (.ref p), some (.int (0 + (i : Int))), some (nV pn), some (.ref sl), x11, x12, x13, x14, x15] ∧ Go t H' H'' ∧ H'' sl = some (.lst (ss.map nV)) ∧ ss.length ≤ j ∧ ∀ s ∈ ss, s < n)
      ⟨_, _, [], rfl, g14, hsl6, Nat.le_refl 0, (fun u hu => nomatch hu)⟩ (fun j σ H'' hj p => ?_) (fun σ H'' p => ?_)⟩
    · obtain ⟨x11, x12, ss, rfl, gg, hss, hsl, hsn⟩ := p
      walk_at "go"
      refine ⟨t, (n : Int), rfl, (g.trans gg).tp hT, by omega, by omega, fun go0 H7 g15 hgo0 hgon => ?_⟩
      have g16 := gg.trans g15
      have hss7 := g15.at_ hss slt
      walk_at "go"
      refine w_cutS (Mid := fun σ' H8 => ∃ go1, σ' = [some (.ref t), some (.int 4), some (.int 8), some (.int low), some (nV n), some (.int sh), some (.int md), some (.ref p), some (.int (0 + (i : Int))), some (nV pn), some (.ref sl), some (.int (0 + (j : Int))), some (.int go1), x13, x14, x15] ∧ H8 = H7) ?_ fun σ' H8 hmid => ?_
      · walk_at "go"
        refine ite2 (fun e => ?_) (fun e => ?_)
        · walk_at "go"
          exact ⟨_, rfl, rfl⟩
        · walk_at "go"
          exact ⟨_, rfl, rfl⟩
      obtain ⟨go1, rfl, rfl⟩ := hmid
      refine w_cutS (Mid := fun σ' H9 => ∃ go1, σ' = [some (.ref t), some (.int 4), some (.int 8), some (.int low), some (nV n), some (.int sh), some (.int md), some (.ref p), some (.int (0 + (i : Int))), some (nV pn), some (.ref sl), some (.int (0 + (j : Int))), some (.int go1), x13, x14, x15] ∧ H9 = H8) ?_ fun σ' H9 hmid => ?_
      · walk_at "go"
        refine ite2 (fun e => ?_) (fun e => ?_)
        · walk_at "go"
          exact ⟨_, rfl, rfl⟩
        · walk_at "go"
          exact ⟨_, rfl, rfl⟩
      obtain ⟨go2, rfl, rfl⟩ := hmid
      walk_at "go"
      refine ite2 (fun e => ?_) (fun e => ?_)
      · walk_at "go"
        refine ite2 (fun e2 => ?_) (fun e2 => ?_)
        · have e := of_decide_eq_true e
          have e2 := of_decide_eq_true e2
          obtain ⟨gn, rfl⟩ : ∃ gn : Nat, go2 = (gn : Int) := ⟨go2.toNat, by omega⟩
          walk_at "go"
          refine w_app hss7 ?_ ?_
          · rw [List.length_map]
            exact small1000 (by omega)
          walk_at "go"
          refine ⟨_, _, ss ++ [gn], rfl, g16.mut hsl1, ?_, ?_, fun s hs => ?_⟩
          · rw [upd_same, List.map_append]
            rfl
          · rw [List.length_append]
            simp only [List.length_singleton]
            omega
          · rcases List.mem_append.mp hs with hs | hs
            · exact hsn s hs
            · rw [List.mem_singleton.mp hs]
              omega
        · walk_at "go"
          exact ⟨_, _, ss, rfl, g16, hss7, by omega, hsn⟩
      · refine iteF ?_
        walk_at "go"
        exact ⟨_, _, ss, rfl, g16, hss7, by omega, hsn⟩
    · obtain ⟨x11, x12, ss, rfl, gg, hss, hsl, hsn⟩ := p
      walk_at "go"
      refine w_tuple hss fun b hb => ?_
      have g15 := gg.trans (Go.new (t := t) (o := tupN ss) hb)
      walk_at "go"
      refine ⟨t, md, low, rfl, (g.trans g15).tp hT, hmd0, hmd4, fun pr H7 g16 hpr => ?_⟩
      have g17 := g15.trans g16
      have hb7 : H7 b = some (tupN ss) := g16.te _ _ upd_same
      walk_at "go"
      refine ⟨lenOk (n := 3) rfl, fun a ha => ?_⟩
      have g18 := g17.trans (Go.new (t := t) (o := .tup [nV pn, .ref b, oV pr]) ha)
      have hb8 : (upd H7 a (.tup [nV pn, .ref b, oV pr])) b = some (tupN ss) := by
        rw [upd_ne (ne_of_none hb7 ha)]
        exact hb7
      have hnew : VrAt (upd H7 a (.tup [nV pn, .ref b, oV pr])) (.ref a) ⟨pn, ss, pr⟩ := ⟨a, b, rfl, upd_same, hb8⟩
      have hnok : VrOk n ⟨pn, ss, pr⟩ := ⟨show pn < n by omega, show ss.length ≤ 3 by omega, hsn⟩
      generalize hH8 : upd H7 a (.tup [nV pn, .ref b, oV pr]) = H8 at *
      have hrs8 := g18.at_ hrs ptt
      walk_at "go"
      refine w_cutS (Mid := fun σ' H9 => ∃ y u, σ' = [some (.ref t), some (.int 4), some (.int 8), some (.int low), some (nV n), some (.int sh), some (.int md), some (.ref p), some (.int (0 + (i : Int))), some (nV pn), some (.ref sl), x11, x12, some y, x14, x15] ∧ Go t H' H9 ∧ Rows n H9 [y] [u]) ?_ fun σ' H9 hmid => ?_
      · walk_at "go"
        refine ite2 (fun e => ?_) (fun e => ?_)
        · walk_at "go"
          refine ⟨t, 8, rfl, (g.trans g18).tp hT, by decide, by decide, fun r8 H9 g19 _ _ => ?_⟩
          have g20 := g18.trans g19
          have hrs9 := g20.at_ hrs ptt
          walk_at "go"
          refine ite2 (fun e2 => ?_) (fun e2 => ?_)
          · have hl1 : 1 ≤ rs.length := by
              cases rs with
              | nil => exact absurd e Bool.false_ne_true
              | cons c d =>
                rw [List.length_cons]
                omega
            have hrl := hR.len
            walk_at "go"
            refine ⟨t, (rs.length : Int), rfl, (g.trans g20).tp hT, by omega, by omega, fun rd H10 g21 hrd0 hrdl => ?_⟩
            have g22 := g20.trans g21
            have hrd : rd.toNat < rs.length := by omega
            have hx : rs[rd.toNat]? = some rs[rd.toNat] := List.getElem?_eq_getElem hrd
            obtain ⟨u, hu, hxu⟩ := pair_get hR.pair hx
            have hum := List.mem_of_getElem? hu
            refine w_ixL (g22.at_ hrs ptt) (at_of (j := rd.toNat) (by omega) hx) ?_
            walk_at "go"
            exact ⟨_, u, rfl, g22, Rows.one (hxu.mono g22.te) (hR.ok u hum) (hR.bd u hum)⟩
          · walk_at "go"
            exact ⟨_, _, rfl, g20, Rows.one (hnew.mono g19.te) hnok hpr⟩
        · refine iteF ?_
          walk_at "go"
          exact ⟨_, _, rfl, g18, Rows.one hnew hnok hpr⟩
      obtain ⟨y, u, rfl, g19, hy⟩ := hmid
      have hrs9 := g19.at_ hrs ptt
      walk_at "go"
      refine w_app hrs9 ?_ ?_
      · rw [hR.len, hGl]
        exact small1000 (by omega)
      walk_at "go"
      have te1 : TE H9 (upd H9 p (.lst (rs ++ [y]))) := TE.set hrs9
      refine ⟨_, _, _, _, _, _, _, _, rs ++ [y], G ++ [u], rfl, (g.trans g19).mut hp0, upd_same, ((hR.mono g19.te).cat hy).mono te1, ?_⟩
      rw [List.length_append, hGl]
      rfl
  obtain ⟨x8, x9, x10, x11, x12, x13, x14, x15, rs, G, rfl, g, hrs, hR, hGl⟩ := p
  refine w_cutS (Mid := fun σ' H9 => ∃ x14 rs G, σ' = [some (.ref t), some (.int 4), some (.int 8), some (.int low), some (nV n), some (.int sh), some (.int md), some (.ref p), x8, x9, x10, x11, x12, x13, x14, x15] ∧ Go t H H9 ∧ H9 p = some (.lst rs) ∧ Rows n H9 rs G ∧ G.length ≤ 12) ?_ fun σ' H9 hmid => ?_
  · walk_at "go"
    refine ⟨t, 2, rfl, g.tp hT, by decide, by decide, fun r2 H5 g9 _ _ => ?_⟩
    have g10 := g.trans g9
    walk_at "go"
    refine ite2 (fun e => ?_) (fun e => ?_)
    · walk_at "go"
      refine ⟨(n : Int), rfl, by omega, by omega, for_range (lo := 0) (n := n) (fun i σ H' => ∃ x14 rs G, σ = [some (.ref t), some (.int 4), some (.int 8), some (.int low), some (nV n), some (.int sh), some (.int md), some (.ref p), x8, x9, x10, x11, x12, x13, x14, x15] ∧ Go t H H' ∧ H' p = some (.lst rs) ∧ Rows n H' rs G ∧ G.length ≤ 8 + i)
        ⟨_, rs, G, rfl, g10, g9.at_ hrs ptt, hR.mono g9.te, by omega⟩ (fun i σ H' hi p => ?_) (fun σ H' p => ?_)⟩
      · obtain ⟨x14, rs, G, rfl, g11, hrs, hR, hGl⟩ := p
        have hrl := hR.len
        rw [show (0 : Int) + (i : Int) = (i : Int) from Int.zero_add _]
        walk_at "go"
        refine ⟨t, _, rfl, g11.tp hT, by omega, by omega, fun rd H6 g12 hrd0 hrdl => ?_⟩
        have g13 := g11.trans g12
        walk_at "go"
        refine ⟨lenOk (n := 0) rfl, fun b hb => ?_⟩
        have g14 := g12.trans (Go.new (t := t) (o := .tup []) hb)
        walk_at "go"
        refine ⟨t, md, low, rfl, (g11.trans g14).tp hT, hmd0, hmd4, fun pr H7 g15 hpr => ?_⟩
        have g16 := g14.trans g15
        have hb7 : H7 b = some (tupN []) := g15.te _ _ upd_same
        walk_at "go"
        refine ⟨lenOk (n := 3) rfl, fun a ha => ?_⟩
        have g17 := g16.trans (Go.new (t := t) (o := .tup [nV i, .ref b, oV pr]) ha)
        have hb8 : (upd H7 a (.tup [nV i, .ref b, oV pr])) b = some (tupN []) := by
          rw [upd_ne (ne_of_none hb7 ha)]
          exact hb7
        have hnew : VrAt (upd H7 a (.tup [nV i, .ref b, oV pr])) (.ref a) ⟨i, [], pr⟩ := ⟨a, b, rfl, upd_same, hb8⟩
        have hnok : VrOk n ⟨i, [], pr⟩ := ⟨hi, Nat.zero_le 3, (fun s hs => nomatch hs)⟩
        generalize hH8 : upd H7 a (.tup [nV i, .ref b, oV pr]) = H8 at *
        have hrs8 := g17.at_ hrs ptt
        refine ⟨p, rs, rd, .ref a, rfl, rfl, hrs8, ?_, hrd0, by omega, ?_⟩
        · rw [hrl]
          exact small1000 (by omega)
        walk_at "go"
        have te1 : TE H8 (upd H8 p (.lst (rs.take rd.toNat ++ [.ref a] ++ rs.drop rd.toNat))) := TE.set hrs8
        have hRm := hR.mono g17.te
        refine ⟨_, _, G.take rd.toNat ++ [⟨i, [], pr⟩] ++ G.drop rd.toNat, rfl, (g11.trans g17).mut hp0, upd_same, (((hRm.take rd.toNat).cat (Rows.one hnew hnok hpr)).cat (hRm.drop rd.toNat)).mono te1, ?_⟩
        rw [List.length_append, List.length_append, List.length_take, List.length_drop]
        simp only [List.length_singleton]
        omega
      · obtain ⟨x14, rs, G, rfl, g11, hrs, hR, hGl⟩ := p
        walk_at "go"
        exact ⟨_, rs, G, rfl, g11, hrs, hR, by omega⟩
    · walk_at "go"
      exact ⟨_, rs, G, rfl, g10, g9.at_ hrs ptt, hR.mono g9.te, by omega⟩
  obtain ⟨x14, rs, G, rfl, g, hrs, hR, hGl⟩ := hmid
  walk_at "go"
  refine ⟨(n : Int), rfl, by omega, by omega, fun d hd => lc_range (lo := 0) (n := n) (fun i H' => ∃ ys : List V, Go t H9 H' ∧ H' d = some (.lst ys) ∧ ys.length ≤ i) ⟨[], Go.new hd, upd_same, Nat.le_refl 0⟩ (fun i H' hi p => ?_) (fun H' p => ?_)⟩
  · obtain ⟨ys, gg, hys, hyl⟩ := p
    have dt : d ≠ t := (g.tp hT).ne hd
    walk_at "go"
    refine ⟨rfl, ?_⟩
    walk_at "go"
    refine ⟨t, 3, rfl, (g.trans gg).tp hT, by decide, by decide, fun r3 H6 g12 _ _ => ?_⟩
    have g13 := gg.trans g12
    have hys6 := g12.at_ hys dt
    walk_at "go"
    refine ite2 (fun z => ?_) (fun z => ?_)
    · walk_at "go"
      refine ⟨ys, hys6, small1000 (by omega), _, g13.mut hd, upd_same, ?_⟩
      rw [List.length_append]
      simp only [List.length_singleton]
      omega
    · exact ⟨ys, g13, hys6, by omega⟩
  obtain ⟨ys, gg, hys, hyl⟩ := p
  have g14 := g.trans gg
  have hrs10 := gg.at_ hrs ptt
  have hR10 := hR.mono gg.te
  walk_at "go"
  refine w_cutS (Mid := fun σ' H10 => ∃ ro ys x14, σ' = [some (.ref t), some (.int 4), some (.int 8), some (.int low), some (nV n), some (.int sh), some (.int md), some (.ref p), x8, x9, x10, x11, x12, x13, x14, some (.ref ro)] ∧ Go t H' H10 ∧ H10 ro = some (.lst ys)) ?_ fun σ' H10 hmid => ?_
  · walk_at "go"
    refine ite2 (fun e => ?_) (fun e => ?_)
    · walk_at "go"
      refine ⟨t, 8, rfl, g14.tp hT, by decide, by decide, fun r8 H11 g15 _ _ => ?_⟩
      have g16 := g14.trans g15
      have dt : d ≠ t := (g.tp hT).ne hd
      walk_at "go"
      refine ite2 (fun e2 => ?_) (fun e2 => ?_)
      · walk_at "go"
        refine ⟨t, (n : Int), rfl, g16.tp hT, by omega, by omega, fun r9 H12 g17 _ _ => ?_⟩
        walk_at "go"
        refine ⟨lenOk (n := 1) rfl, fun ro hro => ?_⟩
        walk_at "go"
        exact ⟨ro, _, _, rfl, (g15.trans g17).trans (Go.new hro), upd_same⟩
      · walk_at "go"
        exact ⟨d, ys, _, rfl, g15, g15.at_ hys dt⟩
    · refine iteF ?_
      walk_at "go"
      exact ⟨d, ys, _, rfl, Go.refl t H', hys⟩
  obtain ⟨ro, zs, x14, rfl, g15, hzs⟩ := hmid
  have hrs11 := g15.at_ hrs10 ptt
  have hR11 := hR10.mono g15.te
  walk_at "go"
  refine w_tuple hzs fun ra hra => ?_
  have hrs12 : (upd H10 ra (.tup zs)) p = some (.lst rs) := by
    rw [upd_ne (ne_of_none hrs11 hra)]
    exact hrs11
  walk_at "go"
  refine w_tuple hrs12 fun va hva => ?_
  walk_at "go"
  refine ⟨lenOk (n := 3) rfl, fun fa hfa => ?_⟩
  have te1 : TE H10 (upd (upd (upd H10 ra (.tup zs)) va (.tup rs)) fa (.tup [nV n, .ref ra, .ref va])) := ((TE.new hra).trans (TE.new hva)).trans (TE.new hfa)
  refine q fa n G _ ((((g14.trans g15).trans (Go.new hra)).trans (Go.new hva)).trans (Go.new hfa)) ⟨.ref ra, va, rs, upd_same, ?_, (hR11.mono te1).pair⟩ ⟨hn1, hn4, hGl, hR11.ok⟩ hR11.bd
  rw [upd_ne (ne_of_none upd_same hfa), upd_same]
theorem ok_ways (d : Nat) (Fn : Fun K "_law_ways" "_law_ways" s_ways f fd) (B : Bi mg) (C_ways : Cal P w K mg base "_law_ways" ["_law_counts_here", "_law_slots", "_law_parts"] d (spW d)) : FnOk P w K mg base CX0 (d + 1) f fd ["_law_counts_here", "_law_slots", "_law_parts"] (spW (d + 1)) := by
  refine Fn.ok sc_ways (fun vs H Q E h => ?_) (fun cdv A outer s_0 H vs Q E hr h => ?_)
  · obtain ⟨c, b, n, L, slots, p, rfl, _⟩ := h
    rfl
  obtain ⟨c, b, n, L, slots, p, rfl, hct, hb, hd, h3, hsn, hpL, hL5, q⟩ := h
  obtain ⟨rs, hc, hrl, hrs⟩ := id hct
  refine ⟨_, (pss_cons (ps_if (pt_not (p_truth (pv 1) (by intro _; rfl)))
    (pss_one (ps_ret (pe_callTy c_int (by rfl) B.int PyProof.Rows.boot_int (pa_cons (pe_cmpR op_eq (pv 2) pe_int (nomark _)) pa_nil))))
    pss_nil)
    (pss_cons (ps_if (pt_cmpR op_eq (pe_callB (c_lenK (K := K) rfl) (by rfl) B.len PySem.boot_len (pa_cons (pv 1) pa_nil)) pe_int (nomark _))
    (pss_one (ps_ret (pe_ix (ix_listK (K := K) rfl) (pe_ix (ix_listK (K := K) rfl) (pv 0) (pv 2) (fun _ _ => rfl)) (pe_ix (ix_tupK (K := K) rfl) (pv 1) pe_int (fun _ _ => rfl)) (fun _ _ => rfl))))
    pss_nil)
    (pss_cons (ps_set (i := 3) sc_ways.nd rfl (Or.inl rfl) pe_int)
    (pss_cons (ps_for PassesOwn.never rfl (pi_range2 (by rfl) B.range (pa_cons pe_int (pa_cons (pv 2) pa_nil))) (pg_name (i := 4) sc_ways.nd rfl (Or.inl rfl))
    (pss_cons (ps_set (i := 5) sc_ways.nd rfl (Or.inl rfl) (pe_ix (ix_listK (K := K) rfl) (pe_ix (ix_listK (K := K) rfl) (pv 0) (pv 4) (fun _ _ => rfl)) (pe_ix (ix_tupK (K := K) rfl) (pv 1) pe_int (fun _ _ => rfl)) (fun _ _ => rfl)))
      (pss_one (ps_if (pt_cmpR op_gt (pv 5) pe_int (nomark _))
      (pss_one (ps_set (i := 3) sc_ways.nd rfl (Or.inl rfl) (pe_op op_add (pv 3) (pe_op op_mul (pv 5) (pe_cal C_ways hr (Nat.le_refl _) (by rfl) (pa_cons (pv 0) (pa_cons (pe_slice (sl_tupK (K := K) rfl) (pv 1) (po_some pe_int) po_none) (pa_cons (pe_op op_sub (pv 2) (pv 4)) pa_nil))))))))
      pss_nil))))
    (pss_one (ps_ret (pv 3))))))), ?_⟩
  walk_at "go"
  cases slots with
  | nil =>
    refine iteT ?_
    walk_at "go"
    refine q _ H (Evl.Ex.refl H) ?_ ?_
    · split <;> decide
    · show _ ≤ ((if p = 0 then 1 else 0 : Nat) : Int)
      by_cases e : p = 0
      · rw [if_pos e]
        split <;> decide
      · rw [if_neg e, if_neg (fun z => e (by have := of_decide_eq_true z; omega))]
        decide
  | cons s r =>
    refine iteF ?_
    have hs0 : atI (List.map nV (s :: r)) 0 = some (nV s) := at_of (j := 0) rfl rfl
    have hsn0 := hsn s List.mem_cons_self
    walk_at "go"
    refine ite2 (fun e => ?_) (fun e => ?_)
    · have e := of_decide_eq_true e
      have hr0 : r = [] := by
        cases r with
        | nil => rfl
        | cons c d =>
          rw [List.length_map, List.length_cons, List.length_cons] at e
          omega
      subst hr0
      obtain ⟨r1, row, hr1, hrow, hrn, hat⟩ := ct_row hrl hrs hpL
      obtain ⟨x, hx, hx0, hx1⟩ := hat s hsn0
      walk_at "go"
      refine q x H (Evl.Ex.refl H) hx0 ?_
      show x ≤ (bW 1 p : Int)
      rw [bW_one p (by omega)]
      exact hx1
    · have hr0 : 1 ≤ r.length := by
        cases r with
        | nil => exact absurd (decide_eq_true rfl) e
        | cons c d =>
          rw [List.length_cons]
          omega
      rw [List.length_cons] at hd h3
      obtain ⟨d1, rfl⟩ : ∃ d1, d = d1 + 1 := ⟨d - 1, by omega⟩
      walk_at "go"
      refine ⟨1, (p : Int), rfl, ⟨by decide, by decide, by omega, by omega⟩, for_range (lo := 1) (n := ((p : Int) - 1).toNat) (fun i σ H' => ∃ tot x4 x5, σ = [some (.ref c), some (.ref b), some (nV p), some (.int tot), x4, x5] ∧ Ex H H' ∧ 0 ≤ tot ∧ tot ≤ (bS r.length p i : Int))
        ⟨0, none, none, rfl, Evl.Ex.refl H, Int.le_refl 0, Int.natCast_nonneg _⟩ (fun i σ H' hi p0 => ?_) (fun σ H' p0 => ?_)⟩
      · obtain ⟨tot, x4, x5, rfl, e1, ht0, ht1⟩ := p0
        have hct1 := hct.mono e1
        obtain ⟨r1, row, hr1, hrow, hrn, hat⟩ := ct_row hrl hrs (k := 1 + i) (by omega)
        obtain ⟨x, hx, hx0, hx1⟩ := hat s hsn0
        have hrow := e1 _ _ hrow
        have hc := e1 _ _ hc
        have hb := e1 _ _ hb
        have hix : atI (rs.map V.ref) (1 + (i : Int)) = some (.ref r1) := at_of (j := 1 + i) (by omega) hr1
        have hsm := bR_small (1 + i) (by omega)
        have e12 : 1 + i = i + 1 := Nat.add_comm 1 i
        rw [e12] at hx1 hsm
        have hxs : x ≤ 746496 := by omega
        have step := bS_succ r.length p i
        walk_at "go"
        refine ite2 (fun z => ?_) (fun z => ?_)
        · walk_at "go"
          refine w_sl1 (x := nV s) (xs := r.map nV) hb fun b2 hb2 => ?_
          walk_at "go"
          have e2 := e1.trans (Evl.Ex.new (o := tupN r) hb2)
          refine ⟨c, b2, n, L, r, p - (1 + i), ?_, hct.mono e2, upd_same, by omega, by omega, fun s hs => hsn s (List.mem_cons_of_mem _ hs), by omega, hL5, fun m H3 e3 hm0 hm1 => ?_⟩
          · rw [show (p : Int) - (1 + (i : Int)) = ((p - (1 + i) : Nat) : Int) by omega]
          walk_at "go"
          rw [e12] at hm1
          have mu := mul_up hx0 hm0 hx1 hm1
          refine ⟨_, _, _, rfl, e2.trans e3, by omega, ?_⟩
          rw [step, Int.natCast_add, Int.natCast_mul]
          omega
        · walk_at "go"
          refine ⟨_, _, _, rfl, e1, ht0, ?_⟩
          rw [step, Int.natCast_add]
          have : (0 : Int) ≤ ((bR (i + 1) * bW r.length (p - (i + 1)) : Nat) : Int) := Int.natCast_nonneg _
          omega
      · obtain ⟨tot, x4, x5, rfl, e1, ht0, ht1⟩ := p0
        walk_at "go"
        refine q tot H' e1 ht0 ?_
        rw [List.length_cons, ← bS_all]
        have := bS_mono r.length p (show ((p : Int) - 1).toNat ≤ p by omega)
        omega
theorem row_ne {H : Hp} {a b : Addr} {row : List Int} {rs : List Addr} (h : H a = some (.lst (row.map V.int))) (k : H b = some (.lst (rs.map V.ref))) (hr : 1 ≤ row.length) : a ≠ b := fun e => by
  rw [e, k] at h
  cases row with
  | nil =>
    simp at hr
  | cons x y =>
    cases rs with
    | nil => cases h
    | cons c d => cases h
theorem ok_counts (Fn : Fun K "_law_counts" "_law_counts" s_counts f fd) (B : Bi mg) (C_ways : Cal P w K mg base "_law_ways" ["_law_counts_here", "_law_slots", "_law_parts"] 4 (spWays 3)) : FnOk P w K mg base CX0 5 f fd ["_law_family_here", "_law_top"] spCounts := by
  refine Fn.ok sc_counts (fun vs H Q E h => ?_) (fun cdv A outer s_0 H vs Q E hr h => ?_)
  · obtain ⟨f, n, F, rfl, _⟩ := h
    rfl
  obtain ⟨f, n, F, rfl, hF, ok, q⟩ := h
  obtain ⟨r, va, xs, h1, h2, h3⟩ := id hF
  have hn := ok.top
  have hn1 := ok.pos
  refine ⟨_, (pss_cons (ps_set (i := 2) sc_counts.nd rfl (Or.inl rfl) (pe_lst (pa_cons (pe_lc (own := [("_law_state", 6)]) (g := gName 6) rfl sc_counts.nd (pi_range1 (by rfl) B.range (pa_cons (pe_ix (ix_tupK (K := K) rfl) (pv 0) pe_int (fun _ _ => rfl)) pa_nil)) (blkOk_by (N := ["_law_family_here", "_law_top", "_law_counts_here", "_law_size_here", "_law_row", "_law_variant", "_law_state"]) (sc := defScope s_counts) (by decide +kernel)) (fun _ _ _ _ _ => pg_name (i := 6) sc_counts.nd rfl (Or.inl rfl)) (fun _ _ _ _ _ => pts_nil) (fun _ _ _ _ _ => pe_int)) pa_nil)))
    (pss_cons (ps_for PassesOwn.never rfl (pi_range2 (by rfl) B.range (pa_cons pe_int (pa_cons (pe_op op_add (pv 1) pe_int) pa_nil))) (pg_name (i := 3) sc_counts.nd rfl (Or.inl rfl))
    (pss_cons (ps_setLc (i := 4) (own := [("_law_state", 6)]) (g := gName 6) rfl sc_counts.nd rfl rfl (sw_true rfl rfl rfl (by decide +kernel)) (pi_range1 (by rfl) B.range (pa_cons (pe_ix (ix_tupK (K := K) rfl) (pv 0) pe_int (fun _ _ => rfl)) pa_nil)) (blkOk_by (N := ["_law_family_here", "_law_top", "_law_counts_here", "_law_size_here", "_law_row", "_law_variant", "_law_state"]) (sc := defScope s_counts) (by decide +kernel)) (fun _ _ _ _ _ => pg_name (i := 6) sc_counts.nd rfl (Or.inl rfl)) (fun _ _ _ _ _ => pts_nil) (fun _ _ _ _ _ => pe_int))
      (pss_cons (ps_for PassesOwn.never rfl (pi_tup (pe_ix (ix_tupK (K := K) rfl) (pv 0) pe_int (fun _ _ => rfl))) (pg_name (i := 5) sc_counts.nd rfl (Or.inl rfl))
      (pss_one (ps_if (pt_cmpR o_notN (pe_ix (ix_tupK (K := K) rfl) (pv 5) pe_int (fun _ _ => rfl)) pe_non (nomark _))
        (pss_one (ps_asg (pe_op op_add (pe_ix (ix_listK (K := K) rfl) (pv 4) (pe_ix (ix_tupK (K := K) rfl) (pv 5) pe_int (fun _ _ => rfl)) (fun _ _ => rfl)) (pe_cal C_ways hr (by decide) (by rfl) (pa_cons (pv 2) (pa_cons (pe_ix (ix_tupK (K := K) rfl) (pv 5) pe_int (fun _ _ => rfl)) (pa_cons (pe_op op_sub (pv 3) pe_int) pa_nil))))) (pg_sub (pv 4) (pe_ix (ix_tupK (K := K) rfl) (pv 5) pe_int (fun _ _ => rfl)) set_list)))
        pss_nil)))
      (pss_one (ps_expr (pe_bm PySem.F.plainAttrs_list PySem.F.slot_list_append PySem.F.type_list_append mt_append (pv 2) (pa_cons (pv 4) pa_nil)))))))
    (pss_one (ps_ret (pv 2))))), ?_⟩
  walk_at "go"
  refine ⟨(n : Int), rfl, by omega, by omega, fun d hd => lc_range (lo := 0) (n := n) (fun i H' => Ex H H' ∧ H' d = some (.lst ((List.replicate i (0 : Int)).map V.int))) ⟨Evl.Ex.new hd, upd_same⟩ (fun i H' hi p => ?_) (fun H' p => ?_)⟩
  · obtain ⟨e, hD⟩ := p
    walk_at "go"
    refine ⟨rfl, ?_⟩
    walk_at "go"
    refine iteT ?_
    walk_at "go"
    refine ⟨_, hD, ?_, Evl.Ex.mut e hd, ?_⟩
    · rw [List.length_map, List.length_replicate]
      exact small1000 (by omega)
    · rw [upd_same, List.replicate_succ', List.map_append]
      rfl
  obtain ⟨e0, hD⟩ := p
  walk_at "go"
  refine ⟨lenOk (n := 1) rfl, fun c hc => ?_⟩
  have e1 := e0.trans (Evl.Ex.new (o := .lst [.ref d]) hc)
  have hc0 : H c = none := Ex.back e0 hc
  have dc : d ≠ c := ne_of_none hD hc
  walk_at "go"
  refine ⟨1, 5 + 1, rfl, ⟨by decide, by decide, by decide, by decide⟩, for_range (lo := 1) (n := 5) (fun i σ H' => ∃ x3 x4 x5 x6, σ = [some (.ref f), some (.int 5), some (.ref c), x3, x4, x5, x6] ∧ Ex H H' ∧ CtAt H' c n (1 + i))
    ⟨_, _, _, _, rfl, e1, [d], upd_same, rfl, fun k r hk => ?_⟩ (fun i σ H' hi p => ?_) (fun σ H' p => ?_)⟩
  · cases k with
    | zero =>
      have hk : d = r := Option.some.inj hk
      subst hk
      refine ⟨List.replicate n 0, by rw [upd_ne dc]; exact hD, List.length_replicate, fun x hx => ?_⟩
      rw [(List.mem_replicate.mp hx).2]
      exact ⟨Int.le_refl 0, Int.natCast_nonneg _⟩
    | succ k => simp at hk
  · obtain ⟨x3, x4, x5, x6, rfl, e, hct⟩ := p
    have h1' := e _ _ h1
    have hi4 : i ≤ 4 := by omega
    have bm := bM_12 i hi4
    walk_at "go"
    refine ⟨(n : Int), rfl, by omega, by omega, fun d hd => lc_range (lo := 0) (n := n) (fun i H2 => Ex H' H2 ∧ H2 d = some (.lst ((List.replicate i (0 : Int)).map V.int))) ⟨Evl.Ex.new hd, upd_same⟩ (fun i H2 hi p => ?_) (fun H2 p => ?_)⟩
    · obtain ⟨e, hD⟩ := p
      walk_at "go"
      refine ⟨rfl, ?_⟩
      walk_at "go"
      refine iteT ?_
      walk_at "go"
      refine ⟨_, hD, ?_, Evl.Ex.mut e hd, ?_⟩
      · rw [List.length_map, List.length_replicate]
        exact small1000 (by omega)
      · rw [upd_same, List.replicate_succ', List.map_append]
        rfl
    obtain ⟨e2, hD⟩ := p
    have h12 := e2 _ _ h1'
    have h22 := e2 _ _ (e _ _ h2)
    have hd0 : H d = none := Ex.back e hd
    walk_at "go"
    refine ⟨va, rfl, ⟨_, SqT.of h22⟩, for_tup (xs := xs) (fun j σ H3 => ∃ x5 x6 row, σ = [some (.ref f), some (.int 5), some (.ref c), some (.int (1 + (i : Int))), some (.ref d), x5, x6] ∧ Ex H' H3 ∧ H3 d = some (.lst (row.map V.int)) ∧ row.length = n ∧ ∀ x ∈ row, 0 ≤ x ∧ x ≤ ((j * bM i : Nat) : Int))
      ⟨_, _, List.replicate n 0, rfl, e2, hD, List.length_replicate, fun x hx => by rw [(List.mem_replicate.mp hx).2]; exact ⟨Int.le_refl 0, Int.natCast_nonneg _⟩⟩ (fun j σ H3 _ p => ?_) (fun j x σ H3 hx p => ?_) (fun σ H3 p => ?_)⟩
    · obtain ⟨_, _, _, _, e3, _⟩ := p
      exact SqT.of (e3 _ _ (e _ _ h2))
    · obtain ⟨x5, x6, row, rfl, e3, hrow, hrl, hrb⟩ := p
      obtain ⟨v, hv, a, b, rfl, ha, hb⟩ := pair_get h3 hx
      have vok := ok.all v (List.mem_of_getElem? hv)
      have ha := e3 _ _ (e _ _ ha)
      have hb := e3 _ _ (e _ _ hb)
      have hpl : v.plug < row.length := by
        rw [hrl]
        exact vok.plug
      have hg : (row.map V.int)[v.plug]? = some (.int row[v.plug]) := by
        rw [List.getElem?_map, List.getElem?_eq_getElem hpl]
        rfl
      have hrp := hrb row[v.plug] (List.getElem_mem hpl)
      generalize row[v.plug] = y at hg hrp
      have up : ((j + 1) * bM i : Nat) = j * bM i + bM i := Nat.succ_mul j (bM i)
      have keep : ∀ x ∈ row, 0 ≤ x ∧ x ≤ (((j + 1) * bM i : Nat) : Int) := fun x hx => by
        have := hrb x hx
        rw [up]
        omega
      walk_at "go"
      rw [oV_dec]
      cases hp : v.price with
      | none =>
        refine iteF ?_
        walk_at "go"
        exact ⟨_, _, row, rfl, e3, hrow, hrl, keep⟩
      | some pr =>
        refine iteT ?_
        walk_at "go"
        refine ⟨c, b, n, 1 + i, v.slots, i, ?_, hct.mono e3, hb, vok.few, vok.few, vok.slots, by omega, by omega, fun m H4 e4 hm0 hm1 => ?_⟩
        · rw [show (1 : Int) + (i : Int) - 1 = (i : Int) by omega]
        have hw := bW_bM v.slots.length vok.few i hi4
        have ha4 := e4 _ _ ha
        have hrow4 := e4 _ _ hrow
        have hixn : ixN (row.map V.int).length ((v.plug : Nat) : Int) = some v.plug := ix_nat (by rw [List.length_map]; exact hpl)
        walk_at "go"
        refine ⟨_, _, row.set v.plug (y + m), rfl, Evl.Ex.mut (e3.trans e4) hd, ?_, by rw [List.length_set]; exact hrl, fun x hx => ?_⟩
        · rw [upd_same, List.map_set]
        · rcases List.mem_or_eq_of_mem_set hx with hx | hx
          · exact keep x hx
          · rw [hx, up]
            omega
    · obtain ⟨x5, x6, row, rfl, e3, hrow, hrl, hrb⟩ := p
      obtain ⟨rs, hcs, hrsl, hrs⟩ := hct
      have hc3 := e3 _ _ hcs
      walk_at "go"
      refine w_app hc3 ?_ ?_
      · rw [List.length_map, hrsl]
        exact small1000 (by omega)
      walk_at "go"
      have hrr : ∀ (r : Addr) (row : List Int), H3 r = some (.lst (row.map V.int)) → row.length = n → (upd H3 c (.lst (rs.map V.ref ++ [.ref d]))) r = some (.lst (row.map V.int)) := fun r row hr hl => by
        rw [upd_ne (row_ne hr hc3 (by omega))]
        exact hr
      refine ⟨_, _, _, _, rfl, Evl.Ex.mut (e.trans e3) hc0, rs ++ [d], ?_, ?_, fun k r hk => ?_⟩
      · rw [upd_same, List.map_append]
        rfl
      · rw [List.length_append, hrsl]
        simp only [List.length_singleton]
        omega
      · by_cases z : k < rs.length
        · rw [List.getElem?_append_left z] at hk
          obtain ⟨row, g1, g2, g3⟩ := hrs k r hk
          exact ⟨row, hrr r row (e3 _ _ g1) g2, g2, g3⟩
        · rw [List.getElem?_append_right (by omega)] at hk
          have hkl : k - rs.length = 0 := by
            have := (List.getElem?_eq_some_iff.mp hk).1
            simp only [List.length_singleton] at this
            omega
          rw [hkl] at hk
          have hk : d = r := Option.some.inj hk
          subst hk
          refine ⟨row, hrr d row hrow hrl, hrl, fun x hx => ?_⟩
          have hb := hrb x hx
          have hk1 : k = i + 1 := by omega
          rw [hk1, ← bm]
          have : xs.length * bM i ≤ 12 * bM i := Nat.mul_le_mul_right _ (by rw [pair_len h3]; exact ok.few)
          omega
  · obtain ⟨x3, x4, x5, x6, rfl, e, hct⟩ := p
    walk_at "go"
    exact q c H' e hct
theorem ok_fillings (d : Nat) (Fn : Fun K "_law_fillings" "_law_fillings" s_fillings f fd) (B : Bi mg) (C_fillings : Cal P w K mg base "_law_fillings" ["_law_rows", "_law_slots", "_law_parts"] d (spF d)) : FnOk P w K mg base CX0 (d + 1) f fd ["_law_rows", "_law_slots", "_law_parts"] (spF (d + 1)) := by
  refine Fn.ok sc_fillings (fun vs H Q E h => ?_) (fun cdv A outer s_0 H vs Q E hr h => ?_)
  · obtain ⟨c, b, n, L, F, slots, p, rfl, _⟩ := h
    rfl
  obtain ⟨c, b, n, L, F, slots, p, rfl, hrw, hb, hd, h3, hsn, hpL, hL5, q⟩ := h
  obtain ⟨rs, hc, hrl, hrs⟩ := id hrw
  refine ⟨_, (pss_cons (ps_if (pt_not (p_truth (pv 1) (by intro _; rfl)))
    (pss_cons (ps_if (pt_cmpR op_eq (pv 2) pe_int (nomark _))
      (pss_one (ps_ret (pe_lst (pa_cons (pe_tup (pa_cons pe_int (pa_cons (pe_tup pa_nil) pa_nil))) pa_nil))))
      pss_nil)
      (pss_one (ps_ret (pe_lst pa_nil))))
    pss_nil)
    (pss_cons (ps_set (i := 3) sc_fillings.nd rfl (Or.inl rfl) (pe_lst pa_nil))
    (pss_cons (ps_for PassesOwn.never rfl (pi_range2 (by rfl) B.range (pa_cons pe_int (pa_cons (pe_op op_add (pv 2) pe_int) pa_nil))) (pg_name (i := 4) sc_fillings.nd rfl (Or.inl rfl))
    (pss_cons (ps_set (i := 5) sc_fillings.nd rfl (Or.inl rfl) (pe_ix (ix_listK (K := K) rfl) (pe_ix (ix_listK (K := K) rfl) (pv 0) (pv 4) (fun _ _ => rfl)) (pe_ix (ix_tupK (K := K) rfl) (pv 1) pe_int (fun _ _ => rfl)) (fun _ _ => rfl)))
      (pss_one (ps_if (p_truth (pv 5) (by intro _; rfl))
      (pss_one (ps_for PassesOwn.never rfl (pi_list (pe_cal C_fillings hr (Nat.le_refl _) (by rfl) (pa_cons (pv 0) (pa_cons (pe_slice (sl_tupK (K := K) rfl) (pv 1) (po_some pe_int) po_none) (pa_cons (pe_op op_sub (pv 2) (pv 4)) pa_nil))))) (pg_name (i := 6) sc_fillings.nd rfl (Or.inl rfl))
        (pss_one (ps_for PassesOwn.never rfl (pi_list (pv 5)) (pg_name (i := 7) sc_fillings.nd rfl (Or.inl rfl))
          (pss_one (ps_expr (pe_bm PySem.F.plainAttrs_list PySem.F.slot_list_append PySem.F.type_list_append mt_append (pv 3) (pa_cons (pe_tup (pa_cons (pe_op op_add (pe_ix (ix_tupK (K := K) rfl) (pv 7) pe_int (fun _ _ => rfl)) (pe_ix (ix_tupK (K := K) rfl) (pv 6) pe_int (fun _ _ => rfl))) (pa_cons (pe_op op_catT (pe_ix (ix_tupK (K := K) rfl) (pv 7) pe_int (fun _ _ => rfl)) (pe_ix (ix_tupK (K := K) rfl) (pv 6) pe_int (fun _ _ => rfl))) pa_nil))) pa_nil))))))))
      pss_nil))))
    (pss_one (ps_ret (pv 3)))))), ?_⟩
  walk_at "go"
  cases slots with
  | nil =>
    refine iteT ?_
    walk_at "go"
    refine ite2 (fun e => ?_) (fun e => ?_)
    · have e : p = 0 := by
        have := of_decide_eq_true e
        omega
      subst e
      walk_at "go"
      refine ⟨lenOk (n := 0) rfl, fun t0 ht0 => ?_⟩
      walk_at "go"
      refine ⟨lenOk (n := 2) rfl, fun a ha => ?_⟩
      walk_at "go"
      refine ⟨lenOk (n := 1) rfl, fun l hl => ?_⟩
      have e1 : Ex H (upd H t0 (.tup [])) := Evl.Ex.new ht0
      have e2 := e1.trans (Evl.Ex.new (o := .tup [.int 0, .ref t0]) ha)
      have e3 : Ex (upd (upd H t0 (.tup [])) a (.tup [.int 0, .ref t0])) _ := Evl.Ex.new (o := .lst [.ref a]) hl
      have ht1 := e3 _ _ (Evl.Ex.new (o := .tup [.int 0, .ref t0]) ha _ _ (upd_same : (upd H t0 (.tup [])) t0 = _))
      refine q l [.ref a] _ (e2.trans e3) (Ex.back e2 hl) upd_same (fun x hx => ?_) (Nat.le_refl 1)
      rw [List.mem_singleton.mp hx]
      exact ⟨a, t0, 0, [], rfl, e3 _ _ upd_same, ht1, .nil, rfl⟩
    · walk_at "go"
      refine ⟨lenOk (n := 0) rfl, fun l hl => ?_⟩
      exact q l [] _ (Evl.Ex.new hl) hl upd_same (fun x hx => nomatch hx) (Nat.zero_le _)
  | cons s r =>
    refine iteF ?_
    have hs0 : atI (List.map nV (s :: r)) 0 = some (nV s) := at_of (j := 0) rfl rfl
    have hsn0 := hsn s List.mem_cons_self
    rw [List.length_cons] at hd h3
    walk_at "go"
    refine ⟨lenOk (n := 0) rfl, fun l hl => ?_⟩
    walk_at "go"
    refine ⟨1, (p : Int) + 1, rfl, ⟨by decide, by decide, by omega, by omega⟩, for_range (lo := 1) (n := ((p : Int) + 1 - 1).toNat) (fun i σ H' => ∃ x4 x5 x6 x7 xs, σ = [some (.ref c), some (.ref b), some (nV p), some (.ref l), x4, x5, x6, x7] ∧ Ex H H' ∧ H' l = some (.lst xs) ∧ xs.length ≤ bS r.length p i ∧ ∀ x ∈ xs, ItAt H' F (s :: r) p x)
      ⟨none, none, none, none, [], rfl, Evl.Ex.new hl, upd_same, Nat.zero_le _, (fun x hx => nomatch hx)⟩ (fun i σ H' hi p0 => ?_) (fun σ H' p0 => ?_)⟩
    · obtain ⟨x4, x5, x6, x7, xs, rfl, e1, hxs, hxl, hxi⟩ := p0
      have hip : i < p := by omega
      obtain ⟨r1, cs, hr1, hcs, hat⟩ := rw_cell (c := c) hrl hrs (k := 1 + i) (by omega)
      obtain ⟨ca, hca, xs1, hx1, hx1l, hx1i⟩ := hat s hsn0
      have hc' := e1 _ _ hc
      have hb' := e1 _ _ hb
      have hcs := e1 _ _ hcs
      have hx1' := e1 _ _ hx1
      have hix : atI (rs.map V.ref) (1 + (i : Int)) = some (.ref r1) := at_of (j := 1 + i) (by omega) hr1
      have step := bS_succ r.length p i
      have e12 : 1 + i = i + 1 := Nat.add_comm 1 i
      have top : bS r.length p (i + 1) ≤ 62208 := by
        have z1 := bS_mono r.length p (show i + 1 ≤ p by omega)
        rw [bS_all] at z1
        have z2 := bW_small (r.length + 1) h3 p (by omega)
        omega
      walk_at "go"
      refine ite2 (fun z => ?_) (fun z => ?_)
      · obtain ⟨d1, rfl⟩ : ∃ d1, d = d1 + 1 := ⟨d - 1, by omega⟩
        walk_at "go"
        refine w_sl1 (x := nV s) (xs := r.map nV) hb' fun b2 hb2 => ?_
        have e2 := e1.trans (Evl.Ex.new (o := tupN r) hb2)
        have e2' : Ex H' (upd H' b2 (tupN r)) := Evl.Ex.new hb2
        walk_at "go"
        refine ⟨c, b2, n, L, F, r, p - (1 + i), ?_, hrw.mono e2, upd_same, by omega, by omega, fun s hs => hsn s (List.mem_cons_of_mem _ hs), by omega, hL5, fun l2 xs2 H3 e3 hl2 hl2s hx2i hx2l => ?_⟩
        · rw [show (p : Int) - (1 + (i : Int)) = ((p - (1 + i) : Nat) : Int) by omega]
        have e3' := e2.trans e3
        have hxs3 := e3 _ _ (e2' _ _ hxs)
        have nl2 : l2 ≠ l := fun e => by
          have := e2' _ _ hxs
          rw [← e, hl2] at this
          cases this
        have hcal : ca ≠ l := fun e => by
          rw [e] at hx1
          rw [hx1] at hl
          cases hl
        have big : xs.length + xs2.length * xs1.length ≤ bS r.length p (i + 1) := by
          rw [e12] at hx1l hx2l
          have m1 := Nat.mul_le_mul hx2l hx1l
          rw [step, Nat.mul_comm (bR (i + 1))]
          omega
        walk_at "go"
        refine ⟨l2, rfl, ⟨_, SqL.of hl2s⟩, for_list (xs := xs2) (fun j σ H4 => ∃ x6 x7 ys, σ = [some (.ref c), some (.ref b), some (nV p), some (.ref l), some (.int (1 + (i : Int))), some (.ref ca), x6, x7] ∧ Ex H H4 ∧ Bt l H3 H4 ∧ H4 l = some (.lst ys) ∧ ys.length ≤ xs.length + j * xs1.length ∧ ∀ x ∈ ys, ItAt H4 F (s :: r) p x)
          ⟨_, _, xs, rfl, e3', Bt.refl l H3, hxs3, by omega, fun x hx => (hxi x hx).mono (Ex.te (e2'.trans e3))⟩ (fun j σ H4 _ p0 => ?_) (fun j x2 σ H4 hx2 p0 => ?_) (fun σ H4 p0 => ?_)⟩
        · obtain ⟨_, _, _, _, _, bt, _⟩ := p0
          exact SqL.of (bt.at_ hl2s nl2)
        · obtain ⟨x6, x7, ys, rfl, e4, bt, hys, hyl, hyi⟩ := p0
          obtain ⟨a2, q2, p2, T2, rfl, ha2, hq2, hf2, hT2⟩ := hx2i x2 (List.mem_of_getElem? hx2)
          have hj2 : j < xs2.length := (List.getElem?_eq_some_iff.mp hx2).1
          have mj : (j + 1) * xs1.length ≤ xs2.length * xs1.length := Nat.mul_le_mul_right _ hj2
          have mj2 : (j + 1) * xs1.length = j * xs1.length + xs1.length := Nat.succ_mul j xs1.length
          have hx14 := e4 _ _ hx1
          walk_at "go"
          refine ⟨ca, rfl, ⟨_, SqL.of hx14⟩, for_list (xs := xs1) (fun k σ H5 => ∃ x7 ys, σ = [some (.ref c), some (.ref b), some (nV p), some (.ref l), some (.int (1 + (i : Int))), some (.ref ca), some (.ref a2), x7] ∧ Ex H H5 ∧ Bt l H3 H5 ∧ H5 l = some (.lst ys) ∧ ys.length ≤ xs.length + j * xs1.length + k ∧ ∀ x ∈ ys, ItAt H5 F (s :: r) p x)
            ⟨_, ys, rfl, e4, bt, hys, hyl, hyi⟩ (fun k σ H5 _ p0 => ?_) (fun k x1 σ H5 hx1 p0 => ?_) (fun σ H5 p0 => ?_)⟩
          · obtain ⟨_, _, _, e5, _⟩ := p0
            exact SqL.of (e5 _ _ (by assumption))
          · obtain ⟨x7, ys, rfl, e5, bt5, hys, hyl, hyi⟩ := p0
            obtain ⟨a1, q1, p1, T1, rfl, ha1, hq1, hf1, hT1⟩ := hx1i x1 (List.mem_of_getElem? hx1)
            have hk1 : k < xs1.length := (List.getElem?_eq_some_iff.mp hx1).1
            have ha1 := e5 _ _ ha1
            have hq1 := e5 _ _ hq1
            have ha2 := bt5.te _ _ ha2
            have hq2 := bt5.te _ _ hq2
            walk_at "go"
            refine w_catT2 hq1 hq2 ?_ ?_ fun qq H6 e6 hqq => ?_
            · intro z
              exact hf1.ne (List.map_eq_nil_iff.mp z)
            · rw [List.length_map, List.length_map, hT1, hT2]
              exact Nat.le_of_lt (small1000 (by omega))
            walk_at "go"
            refine ⟨lenOk (n := 2) rfl, fun y hy => ?_⟩
            have hys6 := e6 _ _ hys
            have hly : l ≠ y := ne_of_none hys6 hy
            have hys7 : (upd H6 y (.tup [.int (p1 + p2), .ref qq])) l = some (.lst ys) := by
              rw [upd_ne hly]
              exact hys6
            walk_at "go"
            refine w_app hys7 (small7 (by omega)) ?_
            walk_at "go"
            have te1 : TE H5 (upd (upd H6 y (.tup [.int (p1 + p2), .ref qq])) l (.lst (ys ++ [.ref y]))) := ((Ex.te e6).trans (TE.new hy)).trans (TE.set hys7)
            refine ⟨_, ys ++ [.ref y], rfl, Evl.Ex.mut ((e5.trans e6).trans (Evl.Ex.new hy)) hl, ((bt5.trans (Bt.ex e6)).trans (Bt.ex (Evl.Ex.new hy))).trans (Bt.set hys7), upd_same, ?_, fun x hx => ?_⟩
            · rw [List.length_append]
              simp only [List.length_singleton]
              omega
            · rcases List.mem_append.mp hx with hx | hx
              · exact (hyi x hx).mono te1
              · rw [List.mem_singleton.mp hx]
                refine ⟨y, qq, p1 + p2, T1 ++ T2, rfl, ?_, ?_, hf1.append hf2, ?_⟩
                · rw [upd_ne hly.symm, upd_same]
                · refine (TE.new hy).trans (TE.set hys7) _ _ ?_
                  rw [hqq, List.map_append]
                · rw [List.length_append, hT1, hT2]
                  omega
          · obtain ⟨x7, ys, rfl, e5, bt5, hys, hyl, hyi⟩ := p0
            exact ⟨_, _, ys, rfl, e5, bt5, hys, by omega, hyi⟩
        · obtain ⟨x6, x7, ys, rfl, e4, bt, hys, hyl, hyi⟩ := p0
          exact ⟨_, _, _, _, ys, rfl, e4, hys, by omega, hyi⟩
      · walk_at "go"
        exact ⟨_, _, _, _, xs, rfl, e1, hxs, by omega, hxi⟩
    · obtain ⟨x4, x5, x6, x7, xs, rfl, e1, hxs, hxl, hxi⟩ := p0
      walk_at "go"
      refine q l xs H' e1 hl hxs hxi ?_
      rw [List.length_cons, ← bS_all]
      rw [show ((p : Int) + 1 - 1).toNat = p by omega] at hxl
      exact hxl
/-- a row, apart from the list at c -/
def RoNe (H : Hp) (F : List Vr) (c r : Addr) (n k b : Nat) : Prop := ∃ cs : List Addr, H r = some (.lst (cs.map V.ref)) ∧ cs.length = n ∧ r ≠ c ∧ ∀ (s : Nat) (a : Addr), cs[s]? = some a → a ≠ c ∧ ClAt H F s k b a
theorem RoNe.mono {H H' : Hp} (h : Ex H H') {F : List Vr} {c r : Addr} {n k b : Nat} (q : RoNe H F c r n k b) : RoNe H' F c r n k b := by
  obtain ⟨cs, h1, h2, h3, h4⟩ := q
  exact ⟨cs, h r _ h1, h2, h3, fun s a e => ⟨(h4 s a e).1, (h4 s a e).2.mono h⟩⟩
theorem RoNe.ro {H : Hp} {F : List Vr} {c r : Addr} {n k b : Nat} (q : RoNe H F c r n k b) : RoAt H F r n k b := by
  obtain ⟨cs, h1, h2, _, h4⟩ := q
  exact ⟨cs, h1, h2, fun s a e => (h4 s a e).2⟩
theorem ClAt.upd_ {H : Hp} {F : List Vr} {c a : Addr} {s k b : Nat} {zs : List V} {o : HO} (hc : H c = some (.lst zs)) (ne : a ≠ c) (q : ClAt H F s k b a) : ClAt (upd H c o) F s k b a := by
  obtain ⟨xs, h1, h2, h3⟩ := q
  exact ⟨xs, by rw [upd_ne ne]; exact h1, h2, fun x hx => (h3 x hx).mono (TE.set hc)⟩
theorem RoNe.upd_ {H : Hp} {F : List Vr} {c r : Addr} {n k b : Nat} {zs : List V} {o : HO} (hc : H c = some (.lst zs)) (q : RoNe H F c r n k b) : RoNe (upd H c o) F c r n k b := by
  obtain ⟨cs, h1, h2, h3, h4⟩ := q
  exact ⟨cs, by rw [upd_ne h3]; exact h1, h2, h3, fun s a e => ⟨(h4 s a e).1, (h4 s a e).2.upd_ hc (h4 s a e).1⟩⟩
theorem ClAt.up {H : Hp} {F : List Vr} {a : Addr} {s k b b2 : Nat} (h : b ≤ b2) (q : ClAt H F s k b a) : ClAt H F s k b2 a := by
  obtain ⟨xs, h1, h2, h3⟩ := q
  exact ⟨xs, h1, Nat.le_trans h2 h, h3⟩
/-- a row of empty cells, being made -/
structure NewRow (H0 : Hp) (d : Addr) (i : Nat) (H : Hp) (cs : List Addr) : Prop where
  len : cs.length = i
  nd : cs.Nodup
  ex : Ex H0 H
  row : H d = some (.lst (cs.map V.ref))
  cell : ∀ a ∈ cs, H0 a = none ∧ a ≠ d ∧ H a = some (.lst [])
theorem nr_start {H0 : Hp} {d : Addr} (h : H0 d = none) : NewRow H0 d 0 (upd H0 d (.lst [])) [] := ⟨rfl, List.nodup_nil, Evl.Ex.new h, upd_same, fun a ha => nomatch ha⟩
theorem nr_step {H0 : Hp} {d : Addr} {i : Nat} {H : Hp} {cs : List Addr} {a : Addr} (h : NewRow H0 d i H cs) (hd : H0 d = none) (ha : H a = none) : NewRow H0 d (i + 1) (upd (upd H a (.lst [])) d (.lst (cs.map V.ref ++ [.ref a]))) (cs ++ [a]) := by
  have ne : d ≠ a := ne_of_none h.row ha
  have e : Ex H0 (upd H a (.lst [])) := h.ex.trans (Evl.Ex.new ha)
  refine ⟨by rw [List.length_append, h.len]; rfl, ?_, Evl.Ex.mut e hd, ?_, fun b hb => ?_⟩
  · rw [List.nodup_append]
    refine ⟨h.nd, List.nodup_cons.mpr ⟨List.not_mem_nil, List.nodup_nil⟩, fun x hx y hy => ?_⟩
    rw [List.mem_singleton.mp hy]
    exact ne_of_none (h.cell x hx).2.2 ha
  · rw [upd_same, List.map_append]
    rfl
  · rcases List.mem_append.mp hb with hb | hb
    · obtain ⟨c1, c2, c3⟩ := h.cell b hb
      refine ⟨c1, c2, ?_⟩
      rw [upd_ne c2, upd_ne (ne_of_none c3 ha)]
      exact c3
    · rw [List.mem_singleton.mp hb]
      exact ⟨Ex.back h.ex ha, ne.symm, by rw [upd_ne ne.symm, upd_same]⟩
/-- the cells of a new row, being filled -/
structure Cells (H0 : Hp) (F : List Vr) (d : Addr) (cs : List Addr) (k b : Nat) (H : Hp) : Prop where
  ex : Ex H0 H
  row : H d = some (.lst (cs.map V.ref))
  cell : ∀ (s : Nat) (a : Addr), cs[s]? = some a → ClAt H F s k b a
theorem Cells.mono {H0 : Hp} {F : List Vr} {d : Addr} {cs : List Addr} {k b b2 : Nat} {H H' : Hp} (c : Cells H0 F d cs k b H) (e : Ex H H') (h : b ≤ b2) : Cells H0 F d cs k b2 H' :=
  ⟨c.ex.trans e, e _ _ c.row, fun s a q => ((c.cell s a q).mono e).up h⟩
theorem Cells.app {H0 : Hp} {F : List Vr} {d : Addr} {cs : List Addr} {k b pl : Nat} {H : Hp} {a0 : Addr} {zs : List V} {y : V} (c : Cells H0 F d cs k b H) (nd : cs.Nodup) (fr : ∀ a ∈ cs, H0 a = none ∧ a ≠ d) (ha : cs[pl]? = some a0) (hz : H a0 = some (.lst zs)) (hy : ItAt H F [pl] k y) :
    Cells H0 F d cs k (b + 1) (upd H a0 (.lst (zs ++ [y]))) := by
  have fa := fr a0 (List.mem_of_getElem? ha)
  refine ⟨Evl.Ex.mut c.ex fa.1, by rw [upd_ne fa.2.symm]; exact c.row, fun s a q => ?_⟩
  obtain ⟨xs, h1, h2, h3⟩ := c.cell s a q
  by_cases e : s = pl
  · subst e
    rw [ha] at q
    cases q
    rw [hz] at h1
    cases h1
    refine ⟨zs ++ [y], upd_same, ?_, fun x hx => ?_⟩
    · rw [List.length_append]
      simp only [List.length_singleton]
      omega
    · rcases List.mem_append.mp hx with hx | hx
      · exact (h3 x hx).mono (TE.set hz)
      · rw [List.mem_singleton.mp hx]
        exact hy.mono (TE.set hz)
  · have ne : a ≠ a0 := fun z => by
      rw [z] at q
      exact e (nd_ix nd q ha)
    exact ⟨xs, by rw [upd_ne ne]; exact h1, by omega, fun x hx => (h3 x hx).mono (TE.set hz)⟩
theorem ok_trees (Fn : Fun K "_law_trees" "_law_trees" s_trees f fd) (B : Bi mg) (C_fillings : Cal P w K mg base "_law_fillings" ["_law_rows", "_law_slots", "_law_parts"] 4 (spFillings 3)) : FnOk P w K mg base CX0 5 f fd ["_law_family_here", "_law_top"] spTrees := by
  refine Fn.ok sc_trees (fun vs H Q E h => ?_) (fun cdv A outer s_0 H vs Q E hr h => ?_)
  · obtain ⟨f, n, F, r, rfl, _⟩ := h
    rfl
  obtain ⟨f, n, F, r, rfl, hr5, hF, ok, q⟩ := h
  obtain ⟨ro, va, xs, h1, h2, h3⟩ := id hF
  have hn := ok.top
  have hxl : xs.length = F.length := pair_len h3
  have hF12 := ok.few
  refine ⟨_, (pss_cons (ps_set (i := 2) sc_trees.nd rfl (Or.inl rfl) (pe_lst (pa_cons (pe_lc (own := [("_law_state", 8)]) (g := gName 8) rfl sc_trees.nd (pi_range1 (by rfl) B.range (pa_cons (pe_ix (ix_tupK (K := K) rfl) (pv 0) pe_int (fun _ _ => rfl)) pa_nil)) (blkOk_by (N := ["_law_family_here", "_law_top", "_law_rows", "_law_size_here", "_law_row", "_law_number", "_law_variant", "_law_filling", "_law_state"]) (sc := defScope s_trees) (by decide +kernel)) (fun _ _ _ _ _ => pg_name (i := 8) sc_trees.nd rfl (Or.inl rfl)) (fun _ _ _ _ _ => pts_nil) (fun _ _ _ _ _ => (pe_lst pa_nil))) pa_nil)))
    (pss_cons (ps_for PassesOwn.never rfl (pi_range2 (by rfl) B.range (pa_cons pe_int (pa_cons (pe_op op_add (pv 1) pe_int) pa_nil))) (pg_name (i := 3) sc_trees.nd rfl (Or.inl rfl))
    (pss_cons (ps_setLc (i := 4) (own := [("_law_state", 8)]) (g := gName 8) rfl sc_trees.nd rfl rfl (sw_true rfl rfl rfl (by decide +kernel)) (pi_range1 (by rfl) B.range (pa_cons (pe_ix (ix_tupK (K := K) rfl) (pv 0) pe_int (fun _ _ => rfl)) pa_nil)) (blkOk_by (N := ["_law_family_here", "_law_top", "_law_rows", "_law_size_here", "_law_row", "_law_number", "_law_variant", "_law_filling", "_law_state"]) (sc := defScope s_trees) (by decide +kernel)) (fun _ _ _ _ _ => pg_name (i := 8) sc_trees.nd rfl (Or.inl rfl)) (fun _ _ _ _ _ => pts_nil) (fun _ _ _ _ _ => (pe_lst pa_nil)))
      (pss_cons (ps_for PassesOwn.never rfl (pi_range1 (by rfl) B.range (pa_cons (pe_callB (c_lenK (K := K) rfl) (by rfl) B.len PySem.boot_len (pa_cons (pe_ix (ix_tupK (K := K) rfl) (pv 0) pe_int (fun _ _ => rfl)) pa_nil)) pa_nil)) (pg_name (i := 5) sc_trees.nd rfl (Or.inl rfl))
      (pss_cons (ps_set (i := 6) sc_trees.nd rfl (Or.inl rfl) (pe_ix (ix_tupK (K := K) rfl) (pe_ix (ix_tupK (K := K) rfl) (pv 0) pe_int (fun _ _ => rfl)) (pv 5) (fun _ _ => rfl)))
        (pss_one (ps_if (pt_cmpR o_notN (pe_ix (ix_tupK (K := K) rfl) (pv 6) pe_int (fun _ _ => rfl)) pe_non (nomark _))
        (pss_one (ps_for PassesOwn.never rfl (pi_list (pe_cal C_fillings hr (by decide) (by rfl) (pa_cons (pv 2) (pa_cons (pe_ix (ix_tupK (K := K) rfl) (pv 6) pe_int (fun _ _ => rfl)) (pa_cons (pe_op op_sub (pv 3) pe_int) pa_nil))))) (pg_name (i := 7) sc_trees.nd rfl (Or.inl rfl))
          (pss_one (ps_expr (pe_bm PySem.F.plainAttrs_list PySem.F.slot_list_append PySem.F.type_list_append mt_append (pe_ix (ix_listK (K := K) rfl) (pv 4) (pe_ix (ix_tupK (K := K) rfl) (pv 6) pe_int (fun _ _ => rfl)) (fun _ _ => rfl)) (pa_cons (pe_tup (pa_cons (pe_op op_add (pe_ix (ix_tupK (K := K) rfl) (pv 6) pe_int (fun _ _ => rfl)) (pe_ix (ix_tupK (K := K) rfl) (pv 7) pe_int (fun _ _ => rfl))) (pa_cons (pe_op op_catT (pe_tup (pa_cons (pv 5) pa_nil)) (pe_ix (ix_tupK (K := K) rfl) (pv 7) pe_int (fun _ _ => rfl))) pa_nil))) pa_nil))))))
        pss_nil))))
      (pss_one (ps_expr (pe_bm PySem.F.plainAttrs_list PySem.F.slot_list_append PySem.F.type_list_append mt_append (pv 2) (pa_cons (pv 4) pa_nil)))))))
    (pss_one (ps_ret (pv 2))))), ?_⟩
  walk_at "go"
  refine ⟨(n : Int), rfl, by omega, by omega, fun d hd => lc_range (lo := 0) (n := n) (fun i H' => ∃ cs, NewRow H d i H' cs) ⟨[], nr_start hd⟩ (fun i H' hi p => ?_) (fun H' p => ?_)⟩
  · obtain ⟨cs, nr⟩ := p
    walk_at "go"
    refine ⟨rfl, ?_⟩
    walk_at "go"
    refine iteT ?_
    walk_at "go"
    refine ⟨lenOk (n := 0) rfl, fun a ha => ?_⟩
    refine ⟨cs.map V.ref, by rw [upd_ne (ne_of_none nr.row ha)]; exact nr.row, ?_, cs ++ [a], nr_step nr hd ha⟩
    rw [List.length_map, nr.len]
    exact small1000 (by omega)
  obtain ⟨cs0, nr0⟩ := p
  walk_at "go"
  refine ⟨lenOk (n := 1) rfl, fun c hc => ?_⟩
  have e1 := nr0.ex.trans (Evl.Ex.new (o := .lst [.ref d]) hc)
  have hc0 : H c = none := Ex.back nr0.ex hc
  walk_at "go"
  refine ⟨1, (r : Int) + 1, rfl, ⟨by decide, by decide, by omega, by omega⟩, for_range (lo := 1) (n := ((r : Int) + 1 - 1).toNat) (fun i σ H' => ∃ x3 x4 x5 x6 x7 x8 rs, σ = [some (.ref f), some (nV r), some (.ref c), x3, x4, x5, x6, x7, x8] ∧ Ex H H' ∧ H' c = some (.lst (rs.map V.ref)) ∧ rs.length = 1 + i ∧ ∀ (k : Nat) (r0 : Addr), rs[k]? = some r0 → RoNe H' F c r0 n k (bR k))
    ⟨_, _, _, _, _, _, [d], rfl, e1, upd_same, rfl, fun k r0 hk => ?_⟩ (fun i σ H' hi p => ?_) (fun σ H' p => ?_)⟩
  · cases k with
    | zero =>
      have hk : d = r0 := Option.some.inj hk
      subst hk
      refine ⟨cs0, ?_, nr0.len, ne_of_none nr0.row hc, fun s a e => ?_⟩
      · rw [upd_ne (ne_of_none nr0.row hc)]
        exact nr0.row
      · have ce := (nr0.cell a (List.mem_of_getElem? e)).2.2
        exact ⟨ne_of_none ce hc, [], by rw [upd_ne (ne_of_none ce hc)]; exact ce, Nat.zero_le _, fun x hx => nomatch hx⟩
    | succ k => simp at hk
  · obtain ⟨x3, x4, x5, x6, x7, x8, rs, rfl, e, hcs, hrl, hro⟩ := p
    have h1' := e _ _ h1
    have hi4 : i ≤ 4 := by omega
    have bm := bM_12 i hi4
    have hrw : RwAt H' F c n (1 + i) := ⟨rs, hcs, hrl, fun k r0 hk => (hro k r0 hk).ro⟩
    walk_at "go"
    refine ⟨(n : Int), rfl, by omega, by omega, fun d hd => lc_range (lo := 0) (n := n) (fun i H2 => ∃ cs, NewRow H' d i H2 cs) ⟨[], nr_start hd⟩ (fun i H2 hi p => ?_) (fun H2 p => ?_)⟩
    · obtain ⟨cs, nr⟩ := p
      walk_at "go"
      refine ⟨rfl, ?_⟩
      walk_at "go"
      refine iteT ?_
      walk_at "go"
      refine ⟨lenOk (n := 0) rfl, fun a ha => ?_⟩
      refine ⟨cs.map V.ref, by rw [upd_ne (ne_of_none nr.row ha)]; exact nr.row, ?_, cs ++ [a], nr_step nr hd ha⟩
      rw [List.length_map, nr.len]
      exact small1000 (by omega)
    obtain ⟨cs, nr⟩ := p
    have fr : ∀ a ∈ cs, H' a = none ∧ a ≠ d := fun a ha => ⟨(nr.cell a ha).1, (nr.cell a ha).2.1⟩
    have h12 := nr.ex _ _ h1'
    have h22 := nr.ex _ _ (e _ _ h2)
    have cl0 : Cells H' F d cs (1 + i) (0 * bM i) H2 := ⟨nr.ex, nr.row, fun s a q => ⟨[], (nr.cell a (List.mem_of_getElem? q)).2.2, Nat.zero_le _, fun x hx => nomatch hx⟩⟩
    walk_at "go"
    refine ⟨(xs.length : Int), rfl, by omega, by omega, for_range (lo := 0) (n := xs.length) (fun j σ H3 => ∃ x5 x6 x7 x8, σ = [some (.ref f), some (nV r), some (.ref c), some (.int (1 + (i : Int))), some (.ref d), x5, x6, x7, x8] ∧ Cells H' F d cs (1 + i) (j * bM i) H3)
      ⟨_, _, _, _, rfl, cl0⟩ (fun j σ H3 hj p => ?_) (fun σ H3 p => ?_)⟩
    · obtain ⟨x5, x6, x7, x8, rfl, cl⟩ := p
      have hFj : j < F.length := by omega
      have hv : F[j]? = some F[j] := List.getElem?_eq_getElem hFj
      generalize F[j] = v at hv
      obtain ⟨y, hy, a, b, rfl, ha, hb⟩ := pair_at h3 hv
      have vok := ok.all v (List.mem_of_getElem? hv)
      have ha := cl.ex _ _ (e _ _ ha)
      have hb := cl.ex _ _ (e _ _ hb)
      have h13 := cl.ex _ _ h1'
      have h23 := cl.ex _ _ (e _ _ h2)
      have up : ((j + 1) * bM i : Nat) = j * bM i + bM i := Nat.succ_mul j (bM i)
      rw [show (0 : Int) + (j : Int) = (j : Int) from Int.zero_add _]
      walk_at "go"
      rw [oV_dec]
      cases hp : v.price with
      | none =>
        refine iteF ?_
        walk_at "go"
        exact ⟨_, _, _, _, rfl, cl.mono (Evl.Ex.refl _) (by omega)⟩
      | some pr =>
        rw [hp, oV_some] at ha
        refine iteT ?_
        walk_at "go"
        refine ⟨c, b, n, 1 + i, F, v.slots, i, ?_, hrw.mono cl.ex, hb, vok.few, vok.few, vok.slots, by omega, by omega, fun l2 xs2 H4 e4 hl2 hl2s hx2i hx2l => ?_⟩
        · rw [show (1 : Int) + (i : Int) - 1 = (i : Int) by omega]
        have hw := bW_bM v.slots.length vok.few i hi4
        have hpl : v.plug < cs.length := by
          rw [nr.len]
          exact vok.plug
        have hca : cs[v.plug]? = some cs[v.plug] := List.getElem?_eq_getElem hpl
        generalize cs[v.plug] = a0 at hca
        have hra : (cs.map V.ref)[v.plug]? = some (.ref a0) := by
          rw [List.getElem?_map, hca]
          rfl
        have al2 : a0 ≠ l2 := by
          obtain ⟨zs, hz, _⟩ := cl.cell _ _ hca
          exact ne_of_none hz hl2
        walk_at "go"
        refine ⟨l2, rfl, ⟨_, SqL.of hl2s⟩, for_list (xs := xs2) (fun k σ H5 => ∃ x7 x8, σ = [some (.ref f), some (nV r), some (.ref c), some (.int (1 + (i : Int))), some (.ref d), some (nV j), some (.ref a), x7, x8] ∧ Cells H' F d cs (1 + i) (j * bM i + k) H5 ∧ H5 l2 = some (.lst xs2) ∧ TE H4 H5)
          ⟨_, _, rfl, cl.mono e4 (Nat.le_refl _), hl2s, TE.refl H4⟩ (fun k σ H5 _ p => ?_) (fun k x2 σ H5 hx2 p => ?_) (fun σ H5 p => ?_)⟩
        · obtain ⟨_, _, _, _, h, _⟩ := p
          exact SqL.of h
        · obtain ⟨x7, x8, rfl, cl5, hl5, te5⟩ := p
          obtain ⟨a2, q2, p2, T2, rfl, ha2, hq2, hf2, hT2⟩ := (hx2i x2 (List.mem_of_getElem? hx2)).mono te5
          have hk2 : k < xs2.length := (List.getElem?_eq_some_iff.mp hx2).1
          have ha5 := te5 _ _ (e4 _ _ ha)
          have hd5 := cl5.row
          obtain ⟨zs, hz, hzl, hzi⟩ := cl5.cell _ _ hca
          have b0 : 12 * bM i ≤ 746496 := by
            rw [bm]
            exact bR_small (i + 1) (by omega)
          have b1 : j * bM i ≤ 12 * bM i := Nat.mul_le_mul_right _ (by omega)
          walk_at "go"
          refine ⟨lenOk (n := 1) rfl, fun t1 ht1 => ?_⟩
          have e6 : Ex H5 (upd H5 t1 (.tup [nV j])) := Evl.Ex.new ht1
          have ha26 := e6 _ _ ha2
          have hq26 := e6 _ _ hq2
          walk_at "go"
          refine w_catT2 (xs := [nV j]) upd_same hq26 (fun z => nomatch z) ?_ fun qq H7 e7 hqq => ?_
          · rw [List.length_map, hT2]
            exact Nat.le_of_lt (small1000 (by simp only [List.length_singleton]; omega))
          have e57 := e6.trans e7
          walk_at "go"
          refine ⟨lenOk (n := 2) rfl, fun y hy => ?_⟩
          have e58 := e57.trans (Evl.Ex.new (o := .tup [.int (pr + p2), .ref qq]) hy)
          have hqy : qq ≠ y := ne_of_none hqq hy
          walk_at "go"
          refine w_app (e58 _ _ hz) (small7 (by omega)) ?_
          walk_at "go"
          have it : ItAt (upd H7 y (.tup [.int (pr + p2), .ref qq])) F [v.plug] (1 + i) (.ref y) := by
            refine ⟨y, qq, pr + p2, j :: T2, rfl, upd_same, by rw [upd_ne hqy]; exact hqq, Forest.cons hv rfl hp ?_, ?_⟩
            · rw [List.append_nil]
              exact hf2
            · rw [List.length_cons, hT2]
              omega
          have cl8 := (cl5.mono e58 (Nat.le_refl _)).app nr.nd fr hca (e58 _ _ hz) it
          refine ⟨_, _, rfl, cl8, ?_, (te5.trans (Ex.te e58)).trans (TE.set (e58 _ _ hz))⟩
          rw [upd_ne al2.symm]
          exact e58 _ _ hl5
        · obtain ⟨x7, x8, rfl, cl5, _, _⟩ := p
          exact ⟨_, _, _, _, rfl, cl5.mono (Evl.Ex.refl _) (by omega)⟩
    · obtain ⟨x5, x6, x7, x8, rfl, cl⟩ := p
      have hc3 := cl.ex _ _ hcs
      walk_at "go"
      refine w_app hc3 ?_ ?_
      · rw [List.length_map, hrl]
        exact small1000 (by omega)
      walk_at "go"
      refine ⟨_, _, _, _, _, _, rs ++ [d], rfl, Evl.Ex.mut (e.trans cl.ex) hc0, ?_, ?_, fun k r0 hk => ?_⟩
      · rw [upd_same, List.map_append]
        rfl
      · rw [List.length_append, hrl]
        rfl
      · by_cases z : k < rs.length
        · rw [List.getElem?_append_left z] at hk
          exact ((hro k r0 hk).mono cl.ex).upd_ hc3
        · rw [List.getElem?_append_right (by omega)] at hk
          have hkl : k - rs.length = 0 := by
            have := (List.getElem?_eq_some_iff.mp hk).1
            simp only [List.length_singleton] at this
            omega
          rw [hkl] at hk
          have hk : d = r0 := Option.some.inj hk
          subst hk
          obtain rfl : k = 1 + i := by omega
          refine RoNe.upd_ hc3 ⟨cs, cl.row, nr.len, fun z => ?_, fun s a q => ⟨fun z => ?_, (cl.cell s a q).up ?_⟩⟩
          · rw [z, hcs] at hd
            cases hd
          · have := (fr a (List.mem_of_getElem? q)).1
            rw [z, hcs] at this
            cases this
          · rw [Nat.add_comm 1 i, ← bm]
            exact Nat.mul_le_mul_right _ (by omega)
  · obtain ⟨x3, x4, x5, x6, x7, x8, rs, rfl, e, hcs, hrl, hro⟩ := p
    walk_at "go"
    refine q c H' e ⟨rs, hcs, ?_, fun k r0 hk => (hro k r0 hk).ro⟩
    rw [hrl]
    omega
/-- a state and a tree at it -/
def PairAt (H : Hp) (F : List Vr) (x : V) : Prop := ∃ (a q : Addr) (s : Nat) (T : List Nat), x = .ref a ∧ H a = some (.tup [nV s, .ref q]) ∧ H q = some (tupN T) ∧ Forest F [s] T ∧ T.length ≤ 100
theorem PairAt.mono {H H' : Hp} (h : TE H H') {F : List Vr} {x : V} (p : PairAt H F x) : PairAt H' F x := by
  obtain ⟨a, q, s, T, e, h1, h2, h3⟩ := p
  exact ⟨a, q, s, T, e, h _ _ h1, h _ _ h2, h3⟩
theorem plug_lt {n : Nat} {F : List Vr} (ok : FmOk n F) {s : Nat} {T : List Nat} (h : Forest F [s] T) : s < n := by
  cases h with
  | cons a b c d => rw [← b]; exact (ok.all _ (List.mem_of_getElem? a)).plug
/-- how many pairs there are at most behind the rows below i -/
def cum (i : Nat) : Nat := ((List.range i).map bR).sum
theorem cum_succ (i : Nat) : cum (i + 1) = cum i + bR i := by
  unfold cum
  rw [List.range_succ, List.map_append, List.sum_append, List.map_singleton, List.sum_singleton]
theorem cum_small : ∀ i ≤ 6, cum i ≤ 789852 := by decide +kernel
theorem log_small {i : Int} (h : -100000000000 ≤ i ∧ i ≤ 100000000000) : i.natAbs.log2 < 1920 := by
  by_cases e : i.natAbs = 0
  · rw [e]
    decide
  · rw [Nat.log2_lt e]
    have h1 : i.natAbs ≤ 100000000000 := by omega
    have h2 : 100000000000 < 2 ^ 1920 := by decide +kernel
    omega
theorem ok_law (Fn : Fun K "law" "law" s_law f fd) (B : Bi mg) (C_tape : Cal P w K mg base "_law_tape" ["_law_script"] 1 (spTape K)) (C_draw : Cal P w K mg base "_law_draw" ["_law_tape_here", "_law_menu"] 1 spDraw)
    (C_family : Cal P w K mg base "_law_family" ["_law_tape_here", "_law_states", "_law_variants", "_law_low"] 3 spFamily) (C_some_tree : Cal P w K mg base "_law_some_tree" ["_law_tape_here", "_law_family_here", "_law_room"] 3 spSome)
    (C_counts : Cal P w K mg base "_law_counts" ["_law_family_here", "_law_top"] 5 spCounts) (C_reach : Cal P w K mg base "_law_reach" ["_law_counts_here", "_law_limit"] 1 spReach) (C_trees : Cal P w K mg base "_law_trees" ["_law_family_here", "_law_top"] 5 spTrees)
    (C_price_table : Cal P w K mg base "_law_price_table" ["_law_tape_here", "_law_family_here", "_law_sign"] 3 spTable) (C_judged : Cal P w K mg base "_law_judged" ["_law_family_here", "_law_table", "_law_sign"] 2 spJudged)
    (C_is_floor : Cal P w K mg base "is_floor" ["family", "table"] 2 (spFloor 1)) (C_is_ceiling : Cal P w K mg base "is_ceiling" ["family", "table"] 2 (spFloor (-1)))
    (C_price_of : Cal P w K mg base "price_of" ["family", "tree"] 1 spPriceOf) (C_priced : Cal P w K mg base "_law_priced" ["_law_family_here", "_law_tree_here"] 1 spPriceOf) :
    FnOk P w K mg base CX0 6 f fd ["_law_script"] (spLaw K) := by
  refine Fn.ok sc_law (fun vs H Q E h => ?_) (fun cdv A outer s_0 H vs Q E hr h => ?_)
  · obtain ⟨a, ns, rfl, _⟩ := h
    rfl
  obtain ⟨sa, ns, rfl, hS, hn63, q⟩ := h
  refine ⟨_, (pss_cons (ps_set (i := 1) sc_law.nd rfl (Or.inl rfl) (pe_cal C_tape hr (by decide) (by rfl) (pa_cons (pv 0) pa_nil)))
    (pss_cons (ps_set (i := 2) sc_law.nd rfl (Or.inl rfl) (pe_cal C_family hr (by decide) (by rfl) (pa_cons (pv 1) (pa_cons pe_int (pa_cons pe_int (pa_cons (pe_cal C_draw hr (by decide) (by rfl) (pa_cons (pv 1) (pa_cons pe_int pa_nil))) pa_nil))))))
    (pss_cons (ps_set (i := 3) sc_law.nd rfl (Or.inl rfl) (pe_lst pa_nil))
    (pss_cons (ps_for PassesOwn.never rfl (pi_range1 (by rfl) B.range (pa_cons pe_int pa_nil)) (pg_name (i := 4) sc_law.nd rfl (Or.inl rfl))
    (pss_cons (ps_set (i := 5) sc_law.nd rfl (Or.inl rfl) (pe_cal C_some_tree hr (by decide) (by rfl) (pa_cons (pv 1) (pa_cons (pv 2) (pa_cons (pe_ix (ix_listK (K := K) rfl) (pe_lst (pa_cons pe_int (pa_cons pe_int (pa_cons pe_int (pa_cons pe_int pa_nil))))) (pe_cal C_draw hr (by decide) (by rfl) (pa_cons (pv 1) (pa_cons pe_int pa_nil))) (fun _ _ => rfl)) pa_nil)))))
      (pss_one (ps_if (p_truth (pe_ix (ix_tupK (K := K) rfl) (pv 5) pe_int (fun _ _ => rfl)) (by intro _; rfl))
      (pss_one (ps_expr (pe_bm PySem.F.plainAttrs_list PySem.F.slot_list_append PySem.F.type_list_append mt_append (pv 3) (pa_cons (pv 5) pa_nil))))
      pss_nil))))
    (pss_cons (ps_for PassesOwn.never rfl (pi_list (pe_cal C_trees hr (by decide) (by rfl) (pa_cons (pv 2) (pa_cons (pe_cal C_reach hr (by decide) (by rfl) (pa_cons (pe_cal C_counts hr (by decide) (by rfl) (pa_cons (pv 2) (pa_cons pe_int pa_nil))) (pa_cons pe_int pa_nil))) pa_nil)))) (pg_name (i := 6) sc_law.nd rfl (Or.inl rfl))
    (pss_one (ps_for PassesOwn.never rfl (pi_range1 (by rfl) B.range (pa_cons (pe_ix (ix_tupK (K := K) rfl) (pv 2) pe_int (fun _ _ => rfl)) pa_nil)) (pg_name (i := 7) sc_law.nd rfl (Or.inr rfl))
      (pss_one (ps_set (i := 3) sc_law.nd rfl (Or.inl rfl) (pe_op op_cat (pv 3) (pe_lc (own := [("_law_tree_here", 12)]) (g := gName 12) rfl sc_law.nd (pi_list (pe_ix (ix_listK (K := K) rfl) (pv 6) (pv 7) (fun _ _ => rfl))) (blkOk_by (N := ["_law_script", "_law_tape_here", "_law_family_here", "_law_pairs", "_law_k", "_law_pair", "_law_row", "_law_state", "_law_sign", "_law_table", "_law_taken", "_law_told", "_law_tree_here"]) (sc := defScope s_law) (by decide +kernel)) (fun _ _ _ _ _ => pg_name (i := 12) sc_law.nd rfl (Or.inl rfl)) (fun _ _ _ _ _ => pts_nil) (fun _ _ _ _ _ => (pe_tup (pa_cons (pv 7) (pa_cons (pe_ix (ix_tupK (K := K) rfl) (pv 12) pe_int (fun _ _ => rfl)) pa_nil)))))))))))
    (pss_cons (ps_for PassesOwn.never rfl (pi_list (pe_lst (pa_cons pe_int (pa_cons (pe_un un_neg pe_int) (pa_cons pe_int (pa_cons (pe_un un_neg pe_int) pa_nil)))))) (pg_name (i := 8) sc_law.nd rfl (Or.inl rfl))
    (pss_cons (ps_set (i := 9) sc_law.nd rfl (Or.inl rfl) (pe_cal C_price_table hr (by decide) (by rfl) (pa_cons (pv 1) (pa_cons (pv 2) (pa_cons (pv 8) pa_nil)))))
      (pss_cons (ps_set (i := 10) sc_law.nd rfl (Or.inl rfl) (pe_cal C_judged hr (by decide) (by rfl) (pa_cons (pv 2) (pa_cons (pv 9) (pa_cons (pv 8) pa_nil)))))
      (pss_cons (ps_set (i := 11) sc_law.nd rfl (Or.inl rfl) (pe_cal C_is_floor hr (by decide) (by rfl) (pa_cons (pv 2) (pa_cons (pv 9) pa_nil))))
      (Evl.pss_cut (ps_if (pt_cmpR op_eq (pv 8) (pe_un un_neg pe_int) (nomark _))
      (pss_one (ps_set (i := 11) sc_law.nd rfl (Or.inl rfl) (pe_cal C_is_ceiling hr (by decide) (by rfl) (pa_cons (pv 2) (pa_cons (pv 9) pa_nil)))))
      pss_nil)
      (pss_cons (ps_if (pt_cmpR op_ne (pe_callB c_reprB (by rfl) B.repr PyProof.Rows.boot_repr (pa_cons (pv 11) pa_nil)) (pe_callB c_reprB (by rfl) B.repr PyProof.Rows.boot_repr (pa_cons (pv 10) pa_nil)) (nomark _))
      (pss_one (ps_ret pe_bl))
      pss_nil)
      (pss_one (ps_for PassesOwn.never rfl (pi_list (pv 3)) (pg_name (i := 5) sc_law.nd rfl (Or.inl rfl))
      (pss_one (ps_if (PW.pt (pw_and (p_truth (pv 10) (by intro _; rfl)) (pw_and1 (PW.pt (pw_or (pt_cmpR o_isN (pe_ix (ix_tupK (K := K) rfl) (pv 9) (pe_ix (ix_tupK (K := K) rfl) (pv 5) pe_int (fun _ _ => rfl)) (fun _ _ => rfl)) pe_non (nomark _)) (pw_or1 (pt_cmpR op_lt (pe_op op_mul (pe_op op_sub (pe_cal C_price_of hr (by decide) (by rfl) (pa_cons (pv 2) (pa_cons (pe_ix (ix_tupK (K := K) rfl) (pv 5) pe_int (fun _ _ => rfl)) pa_nil))) (pe_ix (ix_tupK (K := K) rfl) (pv 9) (pe_ix (ix_tupK (K := K) rfl) (pv 5) pe_int (fun _ _ => rfl)) (fun _ _ => rfl))) (pv 8)) pe_int (nomark _))))))))
        (pss_one (ps_ret pe_bl))
        pss_nil))))))))))
    (pss_cons (ps_for PassesOwn.never rfl (pi_list (pv 3)) (pg_name (i := 5) sc_law.nd rfl (Or.inl rfl))
    (pss_one (ps_if (pt_cmpR op_ne (pe_callB c_reprI (by rfl) B.repr PyProof.Rows.boot_repr (pa_cons (pe_cal C_price_of hr (by decide) (by rfl) (pa_cons (pv 2) (pa_cons (pe_ix (ix_tupK (K := K) rfl) (pv 5) pe_int (fun _ _ => rfl)) pa_nil))) pa_nil)) (pe_callB c_reprI (by rfl) B.repr PyProof.Rows.boot_repr (pa_cons (pe_cal C_priced hr (by decide) (by rfl) (pa_cons (pv 2) (pa_cons (pe_ix (ix_tupK (K := K) rfl) (pv 5) pe_int (fun _ _ => rfl)) pa_nil))) pa_nil)) (nomark _))
      (pss_one (ps_ret pe_bl))
      pss_nil)))
    (pss_one (ps_ret pe_bl))))))))), ?_⟩
  walk_at "go"
  refine ⟨sa, ns, rfl, hS, hn63, fun t H1 e1 ht hT => ?_⟩
  walk_at "go"
  refine ⟨t, 2, rfl, hT, by decide, by decide, fun low H2 g2 _ _ => ?_⟩
  walk_at "go"
  refine ⟨t, low, rfl, g2.tp hT, fun f n F H3 g3 hF ok bd => ?_⟩
  have hT3 := (g2.trans g3).tp hT
  have hn1 := ok.pos
  have hn4 := ok.top
  walk_at "go"
  refine ⟨lenOk (n := 0) rfl, fun p hp => ?_⟩
  have ptt : p ≠ t := hT3.ne hp
  have g4 : Go t H3 (upd H3 p (.lst [])) := Go.new hp
  walk_at "go"
  refine ⟨4, rfl, by decide, by decide, for_range (lo := 0) (n := 4) (fun i σ H' => ∃ x4 x5 xs, σ = [some (.ref sa), some (.ref t), some (.ref f), some (.ref p), x4, x5, none, none, none, none, none, none, none] ∧ Go t H3 H' ∧ H' p = some (.lst xs) ∧ xs.length ≤ i ∧ ∀ x ∈ xs, PairAt H' F x)
    ⟨_, _, [], rfl, g4, upd_same, Nat.le_refl 0, (fun x hx => nomatch hx)⟩ (fun i σ H' hi p0 => ?_) (fun σ H' p0 => ?_)⟩
  · obtain ⟨x4, x5, xs, rfl, g, hxs, hxl, hxi⟩ := p0
    walk_at "go"
    refine ⟨lenOk (n := 4) rfl, fun p1 hp1 => ?_⟩
    have g5 : Go t H' (upd H' p1 (.lst [.int 1, .int 4, .int 12, .int 40])) := Go.new hp1
    have hp1t : p1 ≠ t := (g.tp hT3).ne hp1
    walk_at "go"
    refine ⟨t, 4, rfl, (g.trans g5).tp hT3, by decide, by decide, fun rd H5 g6 hr0 hr1 => ?_⟩
    obtain ⟨room, ⟨hm0, hm1⟩, hroom⟩ := menu (l := [1, 4, 12, 40]) (fun c => 0 ≤ c ∧ c ≤ 40) (by decide) hr0 hr1
    refine w_ixL (g6.at_ upd_same hp1t) hroom ?_
    have g7 := g5.trans g6
    walk_at "go"
    refine ⟨t, f, n, F, room, rfl, (g.trans g7).tp hT3, hF.mono (g.trans g7).te, ok, hm0, hm1, fun a qa s T H6 g8 ha hqa hTT => ?_⟩
    have g9 := g7.trans g8
    have hxs6 := g9.at_ hxs ptt
    walk_at "go"
    rcases hTT with rfl | ⟨hfo, hTl⟩
    · refine iteF ?_
      walk_at "go"
      exact ⟨_, _, xs, rfl, g.trans g9, hxs6, by omega, fun x hx => (hxi x hx).mono g9.te⟩
    · have hne : (!(T.map nV).isEmpty) = true := by
        cases T with
        | nil => exact absurd rfl hfo.ne
        | cons c d => rfl
      rw [hne]
      refine iteT ?_
      walk_at "go"
      refine w_app hxs6 (small1000 (by omega)) ?_
      walk_at "go"
      have te1 : TE H6 (upd H6 p (.lst (xs ++ [.ref a]))) := TE.set hxs6
      refine ⟨_, _, xs ++ [.ref a], rfl, (g.trans g9).mut hp, upd_same, ?_, fun x hx => ?_⟩
      · rw [List.length_append]
        simp only [List.length_singleton]
        omega
      · rcases List.mem_append.mp hx with hx | hx
        · exact (hxi x hx).mono (g9.te.trans te1)
        · rw [List.mem_singleton.mp hx]
          exact ⟨a, qa, s, T, rfl, te1 _ _ ha, te1 _ _ hqa, hfo, hTl⟩
  obtain ⟨x4, x5, xs, rfl, g, hxs, hxl, hxi⟩ := p0
  walk_at "go"
  refine ⟨f, n, F, rfl, hF.mono g.te, ok, fun c5 H6 e6 hct => ?_⟩
  walk_at "go"
  refine ⟨c5, n, rfl, hct, fun rr H7 e7 hrr => ?_⟩
  have e67 := e6.trans e7
  have g7 := g.trans (Ex.go e67)
  walk_at "go"
  refine ⟨f, n, F, rr, rfl, hrr, hF.mono g7.te, ok, fun c H8 e8 hrw => ?_⟩
  have e68 := e67.trans e8
  have g8 := g7.trans (Ex.go e8)
  obtain ⟨rs, hc, hrl, hrs⟩ := id hrw
  walk_at "go"
  refine ⟨c, rfl, ⟨_, SqL.of hc⟩, for_list (xs := rs.map V.ref) (fun i σ H' => ∃ x6 x7 p xs, σ = [some (.ref sa), some (.ref t), some (.ref f), some (.ref p), x4, x5, x6, x7, none, none, none, none, none] ∧ Ex H8 H' ∧ H' p = some (.lst xs) ∧ xs.length ≤ 4 + n * cum i ∧ ∀ x ∈ xs, PairAt H' F x)
    ⟨_, _, p, xs, rfl, Evl.Ex.refl H8, e68 _ _ hxs, by omega, fun x hx => (hxi x hx).mono (Ex.te e68)⟩ (fun i σ H' _ p0 => ?_) (fun i x σ H' hx p0 => ?_) (fun σ H' p0 => ?_)⟩
  · obtain ⟨_, _, _, _, _, e, _⟩ := p0
    exact SqL.of (e _ _ hc)
  · obtain ⟨x6, x7, p, xs, rfl, e, hxs, hxl, hxi⟩ := p0
    have hi6 : i < rr + 1 := by
      have := (List.getElem?_eq_some_iff.mp hx).1
      rw [List.length_map, hrl] at this
      exact this
    obtain ⟨r1, cs, hr1, hcs, hat⟩ := rw_cell (c := c) hrl hrs (k := i) hi6
    rw [hr1] at hx
    cases hx
    obtain ⟨rf, va, vsx, h1, _, _⟩ := hF.mono (g8.te.trans (Ex.te e))
    have cs1 := cum_succ i
    have csm := cum_small (i + 1) (by omega)
    have nm : n * cum (i + 1) = n * cum i + n * bR i := by rw [cs1, Nat.mul_add]
    have nm4 : n * cum (i + 1) ≤ 4 * 789852 := Nat.mul_le_mul hn4 csm
    walk_at "go"
    refine ⟨(n : Int), rfl, by omega, by omega, for_range (lo := 0) (n := n) (fun s σ H2 => ∃ x7 p xs, σ = [some (.ref sa), some (.ref t), some (.ref f), some (.ref p), x4, x5, some (.ref r1), x7, none, none, none, none, none] ∧ Ex H8 H2 ∧ H2 p = some (.lst xs) ∧ xs.length ≤ 4 + n * cum i + s * bR i ∧ ∀ x ∈ xs, PairAt H2 F x)
      ⟨_, p, xs, rfl, e, hxs, by omega, hxi⟩ (fun s σ H2 hs p0 => ?_) (fun σ H2 p0 => ?_)⟩
    · obtain ⟨x7, p, xs, rfl, e2, hxs, hxl, hxi⟩ := p0
      obtain ⟨ca, hca, xs1, hx1, hx1l, hx1i⟩ := hat s hs
      have hcs2 := e2 _ _ hcs
      have hx12 := e2 _ _ hx1
      have sm : (s + 1) * bR i = s * bR i + bR i := Nat.succ_mul s (bR i)
      have sm2 : (s + 1) * bR i ≤ n * bR i := Nat.mul_le_mul_right _ (by omega)
      rw [show (0 : Int) + (s : Int) = (s : Int) from Int.zero_add _]
      walk_at "go"
      refine ⟨ca, rfl, ⟨_, SqL.of hx12⟩, fun d hd => lc_list (xs := xs1) (fun j H3 => ∃ zs : List V, Ex H2 H3 ∧ H3 d = some (.lst zs) ∧ zs.length = j ∧ ∀ x ∈ zs, PairAt H3 F x) ⟨[], Evl.Ex.new hd, upd_same, rfl, (fun x hx => nomatch hx)⟩ (fun j H3 _ p0 => ?_) (fun j x H3 hx p0 => ?_) (fun H3 p0 => ?_)⟩
      · obtain ⟨_, e3, _⟩ := p0
        exact SqL.of (e3 _ _ hx12)
      · obtain ⟨zs, e3, hzs, hzl, hzi⟩ := p0
        obtain ⟨a1, q1, pr, T, rfl, ha1, hq1, hf1, hT1⟩ := hx1i x (List.mem_of_getElem? hx)
        have hj : j < xs1.length := (List.getElem?_eq_some_iff.mp hx).1
        have ha1 := e3 _ _ (e2 _ _ ha1)
        have hq1 := e3 _ _ (e2 _ _ hq1)
        walk_at "go"
        refine ⟨rfl, ?_⟩
        walk_at "go"
        refine iteT ?_
        walk_at "go"
        refine ⟨lenOk (n := 2) rfl, fun y hy => ?_⟩
        have hdy : d ≠ y := ne_of_none hzs hy
        have hzs4 : (upd H3 y (.tup [nV s, .ref q1])) d = some (.lst zs) := by
          rw [upd_ne hdy]
          exact hzs
        have te1 : TE H3 (upd (upd H3 y (.tup [nV s, .ref q1])) d (.lst (zs ++ [.ref y]))) := (TE.new hy).trans (TE.set hzs4)
        refine ⟨zs, hzs4, small7 (by omega), zs ++ [.ref y], Evl.Ex.mut (e3.trans (Evl.Ex.new hy)) hd, upd_same, ?_, fun x hx => ?_⟩
        · rw [List.length_append, hzl]
          rfl
        · rcases List.mem_append.mp hx with hx | hx
          · exact (hzi x hx).mono te1
          · rw [List.mem_singleton.mp hx]
            refine ⟨y, q1, s, T, rfl, ?_, te1 _ _ hq1, hf1, by omega⟩
            rw [upd_ne hdy.symm, upd_same]
      · obtain ⟨zs, e3, hzs, hzl, hzi⟩ := p0
        have hxs3 := e3 _ _ hxs
        refine w_cat hxs3 hzs (Nat.le_of_lt (small7 (by omega))) fun p2 hp2 => ?_
        walk_at "go"
        have te1 : TE H3 (upd H3 p2 (.lst (xs ++ zs))) := TE.new hp2
        refine ⟨_, p2, xs ++ zs, rfl, (e2.trans e3).trans (Evl.Ex.new hp2), upd_same, ?_, fun x hx => ?_⟩
        · rw [List.length_append]
          omega
        · rcases List.mem_append.mp hx with hx | hx
          · exact (hxi x hx).mono ((Ex.te e3).trans te1)
          · exact (hzi x hx).mono te1
    · obtain ⟨x7, p, xs, rfl, e2, hxs, hxl, hxi⟩ := p0
      exact ⟨_, _, p, xs, rfl, e2, hxs, by omega, hxi⟩
  obtain ⟨x6, x7, p, xs, rfl, e, hxs, _, hxi⟩ := p0
  have g9 := g8.trans (Ex.go e)
  have hF9 := hF.mono g9.te
  have hT9 := g9.tp hT3
  have ptt : p ≠ t := fun z => by
    obtain ⟨a, ns, p1, n1, r1, _, _, ht9, _⟩ := hT9
    rw [z, ht9] at hxs
    cases hxs
    obtain ⟨_, _, _, _, z1, _⟩ := hxi (.int p1) (by simp)
    cases z1
  clear hxl
  walk_at "go"
  refine ⟨lenOk (n := 4) rfl, fun sl hsl => ?_⟩
  have g10 : Go t H' (upd H' sl (.lst [.int 1, .int (-1), .int 1, .int (-1)])) := Go.new hsl
  have slt : sl ≠ t := hT9.ne hsl
  have slp : p ≠ sl := ne_of_none hxs hsl
  refine ⟨sl, rfl, ⟨_, SqL.of upd_same⟩, for_list (xs := [.int 1, .int (-1), .int 1, .int (-1)]) (fun i σ H2 => ∃ x5 x8 x9 x10 x11, σ = [some (.ref sa), some (.ref t), some (.ref f), some (.ref p), x4, x5, x6, x7, x8, x9, x10, x11, none] ∧ Go t H' H2 ∧ H2 sl = some (.lst [.int 1, .int (-1), .int 1, .int (-1)]))
    ⟨_, _, _, _, _, rfl, g10, upd_same⟩ (fun i σ H2 _ p0 => ?_) (fun i x σ H2 hx p0 => ?_) (fun σ H2 p0 => ?_)⟩
  · obtain ⟨_, _, _, _, _, _, _, h⟩ := p0
    exact SqL.of h
  · obtain ⟨x5, x8, x9, x10, x11, rfl, g11, hsl2⟩ := p0
    obtain ⟨sg, hsg, rfl⟩ : ∃ sg : Int, (sg = 1 ∨ sg = -1) ∧ x = .int sg := by
      have hm := List.mem_of_getElem? hx
      simp only [List.mem_cons, List.not_mem_nil, or_false] at hm
      rcases hm with rfl | rfl | rfl | rfl
      · exact ⟨1, .inl rfl, rfl⟩
      · exact ⟨-1, .inr rfl, rfl⟩
      · exact ⟨1, .inl rfl, rfl⟩
      · exact ⟨-1, .inr rfl, rfl⟩
    have hsgb : -(2 ^ 64) < sg ∧ sg < 2 ^ 64 := by rcases hsg with rfl | rfl <;> exact ⟨by decide, by decide⟩
    walk_at "go"
    refine ⟨t, f, n, F, sg, rfl, g11.tp hT9, hF9.mono g11.te, ok, hsg, fun ta T H3 g12 hta hTl => ?_⟩
    have g13 := g11.trans g12
    have hF13 := hF9.mono g13.te
    walk_at "go"
    refine ⟨f, ta, n, F, T, sg, rfl, hF13, ok, hta, hTl, hsg, fun b1 hb1 => ?_⟩
    walk_at "go"
    refine ⟨f, ta, n, F, T, rfl, hF13, ok, hta, hTl, fun b2 H4 e4 hb2 => ?_⟩
    have hta4 := e4 _ _ hta
    walk_at "go"
    refine w_cutS (Mid := fun σ' H5 => ∃ b3, σ' = [some (.ref sa), some (.ref t), some (.ref f), some (.ref p), x4, x5, x6, x7, some (.int sg), some (.ref ta), some (.bl b1), some (.bl b3), none] ∧ Ex H3 H5 ∧ (b3 = true ↔ Judged F T sg)) ?_ fun σ' H5 hmid => ?_
    · walk_at "go"
      refine ite2 (fun z => ?_) (fun z => ?_)
      · have z := of_decide_eq_true z
        subst z
        walk_at "go"
        refine ⟨f, ta, n, F, T, rfl, hF13.mono (Ex.te e4), ok, hta4, hTl, fun b3 H5 e5 hb3 => ?_⟩
        walk_at "go"
        exact ⟨b3, rfl, e4.trans e5, hb3⟩
      · have z : sg = 1 := by
          rcases hsg with z1 | z1
          · exact z1
          · exact absurd (decide_eq_true z1) z
        subst z
        walk_at "go"
        exact ⟨b2, rfl, e4, hb2⟩
    obtain ⟨b3, rfl, e5, hb3⟩ := hmid
    have g14 := g13.trans (Ex.go e5)
    have hb : b3 = b1 := by
      rw [Bool.eq_iff_iff]
      exact hb3.trans hb1.symm
    subst hb
    have hta5 := e5 _ _ hta
    have hxs5 := g14.at_ hxs ptt
    walk_at "go"
    rw [decide_eq_true rfl]
    refine iteF ?_
    walk_at "go"
    refine ⟨p, rfl, ⟨_, SqL.of hxs5⟩, for_list (xs := xs) (fun j σ H6 => ∃ x5, σ = [some (.ref sa), some (.ref t), some (.ref f), some (.ref p), x4, x5, x6, x7, some (.int sg), some (.ref ta), some (.bl b3), some (.bl b3), none] ∧ Ex H5 H6) ⟨_, rfl, Evl.Ex.refl H5⟩ (fun j σ H6 _ p0 => ?_) (fun j x σ H6 hx p0 => ?_) (fun σ H6 p0 => ?_)⟩
    · obtain ⟨_, _, e6⟩ := p0
      exact SqL.of (e6 _ _ hxs5)
    · obtain ⟨x5, rfl, e6⟩ := p0
      obtain ⟨a, qa, s, TT, rfl, ha, hqa, hfo, hTTl⟩ := (hxi x (List.mem_of_getElem? hx)).mono (g14.te.trans (Ex.te e6))
      have hta6 := e6 _ _ hta5
      have hF6 := hF9.mono (g14.te.trans (Ex.te e6))
      have hlt : s < T.length := by
        rw [hTl]
        exact plug_lt ok hfo
      walk_at "go"
      cases hb4 : b3 with
      | false =>
        refine iteF ?_
        refine iteF ?_
        walk_at "go"
        exact ⟨_, rfl, e6⟩
      | true =>
        obtain ⟨y, hy, hbar⟩ := bar hsg (hb3.mp hb4) hfo
        have hg : (T.map oV)[s]? = some (.int y) := oV_at hlt hy
        refine iteT ?_
        walk_at "go"
        refine iteF ?_
        walk_at "go"
        refine ⟨f, qa, n, F, TT, rfl, hF6, hqa, hfo.parts, by omega, fun H7 e7 => ?_⟩
        have ha7 := e7 _ _ ha
        have hta7 := e7 _ _ hta6
        walk_at "go"
        rw [decide_eq_false hbar]
        refine iteF ?_
        walk_at "go"
        exact ⟨_, rfl, e6.trans e7⟩
    · obtain ⟨x5, rfl, e6⟩ := p0
      exact ⟨_, _, _, _, _, rfl, g14.trans (Ex.go e6), (g12.trans (Ex.go (e5.trans e6))).at_ hsl2 slt⟩
  obtain ⟨x5, x8, x9, x10, x11, rfl, g11, hsl2⟩ := p0
  have hxs11 := g11.at_ hxs ptt
  walk_at "go"
  refine ⟨p, rfl, ⟨_, SqL.of hxs11⟩, for_list (xs := xs) (fun j σ H6 => ∃ x5, σ = [some (.ref sa), some (.ref t), some (.ref f), some (.ref p), x4, x5, x6, x7, x8, x9, x10, x11, none] ∧ Ex H2 H6) ⟨_, rfl, Evl.Ex.refl H2⟩ (fun j σ H6 _ p0 => ?_) (fun j x σ H6 hx p0 => ?_) (fun σ H6 p0 => ?_)⟩
  · obtain ⟨_, _, e6⟩ := p0
    exact SqL.of (e6 _ _ hxs11)
  · obtain ⟨x5, rfl, e6⟩ := p0
    obtain ⟨a, qa, s, TT, rfl, ha, hqa, hfo, hTTl⟩ := (hxi x (List.mem_of_getElem? hx)).mono (g11.te.trans (Ex.te e6))
    have hF6 := hF9.mono (g11.te.trans (Ex.te e6))
    have hlog : (psum F TT).natAbs.log2 < 1920 := by
      have := psum_small (B := 1000000000) (by decide) bd TT
      refine log_small ⟨?_, ?_⟩ <;> omega
    walk_at "go"
    refine ⟨f, qa, n, F, TT, rfl, hF6, hqa, hfo.parts, by omega, fun H7 e7 => ?_⟩
    have ha7 := e7 _ _ ha
    walk_at "go"
    refine w_reprI hlog ?_
    walk_at "go"
    refine ⟨f, qa, n, F, TT, rfl, hF6.mono (Ex.te e7), e7 _ _ hqa, hfo.parts, by omega, fun H8 e8 => ?_⟩
    walk_at "go"
    refine w_reprI hlog ?_
    walk_at "go"
    rw [decide_eq_true rfl]
    refine iteF ?_
    walk_at "go"
    exact ⟨_, rfl, (e6.trans e7).trans e8⟩
  · obtain ⟨x5, rfl, e6⟩ := p0
    walk_at "go"
    exact q H6
end
theorem bd_price_of (kV doc pm : Value) (an : Option Addr) (cdv ct : Value) (us : List Value) (hl : us.length = (["family", "tree"] : List Str).length) : bindArgs (PySem.W.fnOf "price_of" "price_of" (defArgs s_price_of) (defBody s_price_of) (defScope s_price_of) .none kV doc pm an cdv ct) ⟨us, []⟩ = pure ((["family", "tree"] : List Str).zip us) :=
  match us, hl with
  | [_, _], _ => rfl
theorem bd_cost_of (kV doc pm : Value) (an : Option Addr) (cdv ct : Value) (us : List Value) (hl : us.length = (["family", "table", "number"] : List Str).length) : bindArgs (PySem.W.fnOf "cost_of" "cost_of" (defArgs s_cost_of) (defBody s_cost_of) (defScope s_cost_of) .none kV doc pm an cdv ct) ⟨us, []⟩ = pure ((["family", "table", "number"] : List Str).zip us) :=
  match us, hl with
  | [_, _, _], _ => rfl
theorem bd_is_floor (kV doc pm : Value) (an : Option Addr) (cdv ct : Value) (us : List Value) (hl : us.length = (["family", "table"] : List Str).length) : bindArgs (PySem.W.fnOf "is_floor" "is_floor" (defArgs s_is_floor) (defBody s_is_floor) (defScope s_is_floor) .none kV doc pm an cdv ct) ⟨us, []⟩ = pure ((["family", "table"] : List Str).zip us) :=
  match us, hl with
  | [_, _], _ => rfl
theorem bd_is_ceiling (kV doc pm : Value) (an : Option Addr) (cdv ct : Value) (us : List Value) (hl : us.length = (["family", "table"] : List Str).length) : bindArgs (PySem.W.fnOf "is_ceiling" "is_ceiling" (defArgs s_is_ceiling) (defBody s_is_ceiling) (defScope s_is_ceiling) .none kV doc pm an cdv ct) ⟨us, []⟩ = pure ((["family", "table"] : List Str).zip us) :=
  match us, hl with
  | [_, _], _ => rfl
theorem bd_tape (kV doc pm : Value) (an : Option Addr) (cdv ct : Value) (us : List Value) (hl : us.length = (["_law_script"] : List Str).length) : bindArgs (PySem.W.fnOf "_law_tape" "_law_tape" (defArgs s_tape) (defBody s_tape) (defScope s_tape) .none kV doc pm an cdv ct) ⟨us, []⟩ = pure ((["_law_script"] : List Str).zip us) :=
  match us, hl with
  | [_], _ => rfl
theorem bd_draw (kV doc pm : Value) (an : Option Addr) (cdv ct : Value) (us : List Value) (hl : us.length = (["_law_tape_here", "_law_menu"] : List Str).length) : bindArgs (PySem.W.fnOf "_law_draw" "_law_draw" (defArgs s_draw) (defBody s_draw) (defScope s_draw) .none kV doc pm an cdv ct) ⟨us, []⟩ = pure ((["_law_tape_here", "_law_menu"] : List Str).zip us) :=
  match us, hl with
  | [_, _], _ => rfl
theorem bd_price (kV doc pm : Value) (an : Option Addr) (cdv ct : Value) (us : List Value) (hl : us.length = (["_law_tape_here", "_law_mode", "_law_low"] : List Str).length) : bindArgs (PySem.W.fnOf "_law_price" "_law_price" (defArgs s_price) (defBody s_price) (defScope s_price) .none kV doc pm an cdv ct) ⟨us, []⟩ = pure ((["_law_tape_here", "_law_mode", "_law_low"] : List Str).zip us) :=
  match us, hl with
  | [_, _, _], _ => rfl
theorem bd_family (kV doc pm : Value) (an : Option Addr) (cdv ct : Value) (us : List Value) (hl : us.length = (["_law_tape_here", "_law_states", "_law_variants", "_law_low"] : List Str).length) : bindArgs (PySem.W.fnOf "_law_family" "_law_family" (defArgs s_family) (defBody s_family) (defScope s_family) .none kV doc pm an cdv ct) ⟨us, []⟩ = pure ((["_law_tape_here", "_law_states", "_law_variants", "_law_low"] : List Str).zip us) :=
  match us, hl with
  | [_, _, _, _], _ => rfl
theorem bd_size (kV doc pm : Value) (an : Option Addr) (cdv ct : Value) (us : List Value) (hl : us.length = (["_law_variant", "_law_sizes_here"] : List Str).length) : bindArgs (PySem.W.fnOf "_law_size" "_law_size" (defArgs s_size) (defBody s_size) (defScope s_size) .none kV doc pm an cdv ct) ⟨us, []⟩ = pure ((["_law_variant", "_law_sizes_here"] : List Str).zip us) :=
  match us, hl with
  | [_, _], _ => rfl
theorem bd_sizes (kV doc pm : Value) (an : Option Addr) (cdv ct : Value) (us : List Value) (hl : us.length = (["_law_family_here"] : List Str).length) : bindArgs (PySem.W.fnOf "_law_sizes" "_law_sizes" (defArgs s_sizes) (defBody s_sizes) (defScope s_sizes) .none kV doc pm an cdv ct) ⟨us, []⟩ = pure ((["_law_family_here"] : List Str).zip us) :=
  match us, hl with
  | [_], _ => rfl
theorem bd_priced (kV doc pm : Value) (an : Option Addr) (cdv ct : Value) (us : List Value) (hl : us.length = (["_law_family_here", "_law_tree_here"] : List Str).length) : bindArgs (PySem.W.fnOf "_law_priced" "_law_priced" (defArgs s_priced) (defBody s_priced) (defScope s_priced) .none kV doc pm an cdv ct) ⟨us, []⟩ = pure ((["_law_family_here", "_law_tree_here"] : List Str).zip us) :=
  match us, hl with
  | [_, _], _ => rfl
theorem bd_tree (kV doc pm : Value) (an : Option Addr) (cdv ct : Value) (us : List Value) (hl : us.length = (["_law_tape_here", "_law_family_here", "_law_sizes_here", "_law_state", "_law_room"] : List Str).length) : bindArgs (PySem.W.fnOf "_law_tree" "_law_tree" (defArgs s_tree) (defBody s_tree) (defScope s_tree) .none kV doc pm an cdv ct) ⟨us, []⟩ = pure ((["_law_tape_here", "_law_family_here", "_law_sizes_here", "_law_state", "_law_room"] : List Str).zip us) :=
  match us, hl with
  | [_, _, _, _, _], _ => rfl
theorem bd_ways (kV doc pm : Value) (an : Option Addr) (cdv ct : Value) (us : List Value) (hl : us.length = (["_law_counts_here", "_law_slots", "_law_parts"] : List Str).length) : bindArgs (PySem.W.fnOf "_law_ways" "_law_ways" (defArgs s_ways) (defBody s_ways) (defScope s_ways) .none kV doc pm an cdv ct) ⟨us, []⟩ = pure ((["_law_counts_here", "_law_slots", "_law_parts"] : List Str).zip us) :=
  match us, hl with
  | [_, _, _], _ => rfl
theorem bd_counts (kV doc pm : Value) (an : Option Addr) (cdv ct : Value) (us : List Value) (hl : us.length = (["_law_family_here", "_law_top"] : List Str).length) : bindArgs (PySem.W.fnOf "_law_counts" "_law_counts" (defArgs s_counts) (defBody s_counts) (defScope s_counts) .none kV doc pm an cdv ct) ⟨us, []⟩ = pure ((["_law_family_here", "_law_top"] : List Str).zip us) :=
  match us, hl with
  | [_, _], _ => rfl
theorem bd_reach (kV doc pm : Value) (an : Option Addr) (cdv ct : Value) (us : List Value) (hl : us.length = (["_law_counts_here", "_law_limit"] : List Str).length) : bindArgs (PySem.W.fnOf "_law_reach" "_law_reach" (defArgs s_reach) (defBody s_reach) (defScope s_reach) .none kV doc pm an cdv ct) ⟨us, []⟩ = pure ((["_law_counts_here", "_law_limit"] : List Str).zip us) :=
  match us, hl with
  | [_, _], _ => rfl
theorem bd_fillings (kV doc pm : Value) (an : Option Addr) (cdv ct : Value) (us : List Value) (hl : us.length = (["_law_rows", "_law_slots", "_law_parts"] : List Str).length) : bindArgs (PySem.W.fnOf "_law_fillings" "_law_fillings" (defArgs s_fillings) (defBody s_fillings) (defScope s_fillings) .none kV doc pm an cdv ct) ⟨us, []⟩ = pure ((["_law_rows", "_law_slots", "_law_parts"] : List Str).zip us) :=
  match us, hl with
  | [_, _, _], _ => rfl
theorem bd_trees (kV doc pm : Value) (an : Option Addr) (cdv ct : Value) (us : List Value) (hl : us.length = (["_law_family_here", "_law_top"] : List Str).length) : bindArgs (PySem.W.fnOf "_law_trees" "_law_trees" (defArgs s_trees) (defBody s_trees) (defScope s_trees) .none kV doc pm an cdv ct) ⟨us, []⟩ = pure ((["_law_family_here", "_law_top"] : List Str).zip us) :=
  match us, hl with
  | [_, _], _ => rfl
theorem bd_some_tree (kV doc pm : Value) (an : Option Addr) (cdv ct : Value) (us : List Value) (hl : us.length = (["_law_tape_here", "_law_family_here", "_law_room"] : List Str).length) : bindArgs (PySem.W.fnOf "_law_some_tree" "_law_some_tree" (defArgs s_some_tree) (defBody s_some_tree) (defScope s_some_tree) .none kV doc pm an cdv ct) ⟨us, []⟩ = pure ((["_law_tape_here", "_law_family_here", "_law_room"] : List Str).zip us) :=
  match us, hl with
  | [_, _, _], _ => rfl
theorem bd_cost (kV doc pm : Value) (an : Option Addr) (cdv ct : Value) (us : List Value) (hl : us.length = (["_law_variant", "_law_table"] : List Str).length) : bindArgs (PySem.W.fnOf "_law_cost" "_law_cost" (defArgs s_cost) (defBody s_cost) (defScope s_cost) .none kV doc pm an cdv ct) ⟨us, []⟩ = pure ((["_law_variant", "_law_table"] : List Str).zip us) :=
  match us, hl with
  | [_, _], _ => rfl
theorem bd_judged (kV doc pm : Value) (an : Option Addr) (cdv ct : Value) (us : List Value) (hl : us.length = (["_law_family_here", "_law_table", "_law_sign"] : List Str).length) : bindArgs (PySem.W.fnOf "_law_judged" "_law_judged" (defArgs s_judged) (defBody s_judged) (defScope s_judged) .none kV doc pm an cdv ct) ⟨us, []⟩ = pure ((["_law_family_here", "_law_table", "_law_sign"] : List Str).zip us) :=
  match us, hl with
  | [_, _, _], _ => rfl
theorem bd_extreme (kV doc pm : Value) (an : Option Addr) (cdv ct : Value) (us : List Value) (hl : us.length = (["_law_family_here", "_law_sign"] : List Str).length) : bindArgs (PySem.W.fnOf "_law_extreme" "_law_extreme" (defArgs s_extreme) (defBody s_extreme) (defScope s_extreme) .none kV doc pm an cdv ct) ⟨us, []⟩ = pure ((["_law_family_here", "_law_sign"] : List Str).zip us) :=
  match us, hl with
  | [_, _], _ => rfl
theorem bd_moved (kV doc pm : Value) (an : Option Addr) (cdv ct : Value) (us : List Value) (hl : us.length = (["_law_tape_here", "_law_family_here", "_law_sign"] : List Str).length) : bindArgs (PySem.W.fnOf "_law_moved" "_law_moved" (defArgs s_moved) (defBody s_moved) (defScope s_moved) .none kV doc pm an cdv ct) ⟨us, []⟩ = pure ((["_law_tape_here", "_law_family_here", "_law_sign"] : List Str).zip us) :=
  match us, hl with
  | [_, _, _], _ => rfl
theorem bd_price_table (kV doc pm : Value) (an : Option Addr) (cdv ct : Value) (us : List Value) (hl : us.length = (["_law_tape_here", "_law_family_here", "_law_sign"] : List Str).length) : bindArgs (PySem.W.fnOf "_law_price_table" "_law_price_table" (defArgs s_price_table) (defBody s_price_table) (defScope s_price_table) .none kV doc pm an cdv ct) ⟨us, []⟩ = pure ((["_law_tape_here", "_law_family_here", "_law_sign"] : List Str).zip us) :=
  match us, hl with
  | [_, _, _], _ => rfl
theorem bd_law (kV doc pm : Value) (an : Option Addr) (cdv ct : Value) (us : List Value) (hl : us.length = (["_law_script"] : List Str).length) : bindArgs (PySem.W.fnOf "law" "law" (defArgs s_law) (defBody s_law) (defScope s_law) .none kV doc pm an cdv ct) ⟨us, []⟩ = pure ((["_law_script"] : List Str).zip us) :=
  match us, hl with
  | [_], _ => rfl
/-- a def as it stands behind the top -/
def DefAt (K : PySem.W.Frag) (mg : Str → Option Value) (x : Str) (st : Stmt) : Prop := ∃ (f : Addr) (fd : FuncData), Fun K x x st f fd ∧ mg x = some (.ref f)
theorem def_mk {K : PySem.W.Frag} {h : Heap} {mg : Str → Option Value} {x : Str} {st : Stmt} {f : Addr} {od an : Option Addr} {sl : Array (Option Value)} {oc kV dc pm cd ct : Value} (X : K.In h) (G : h.Ns mainGlobals mg)
    (a : PySem.W.nsIn K mainGlobals x = some (some (.ref f))) (l : K.lookup f = some ⟨oc, od, .func (PySem.W.fnOf x x (defArgs st) (defBody st) (defScope st) .none kV dc pm an cd ct), sl⟩) (c : PySem.W.codeIn K cd x = true) (k : PySem.W.keepIn K (.ref f) = true) : DefAt K mg x st :=
  ⟨f, _, fun_mk l c k, PySem.W.mg_of X G a⟩
theorem ways_all {P : Program} {w : World} {K : PySem.W.Frag} {mg : Str → Option Value} {base : Heap} {f : Addr} {fd : FuncData} (Fn : Fun K "_law_ways" "_law_ways" s_ways f fd) (hm : mg "_law_ways" = some (.ref f)) (B : Bi mg) : ∀ d, Cal P w K mg base "_law_ways" ["_law_counts_here", "_law_slots", "_law_parts"] d (spW d)
  | 0 => cal_never hm Fn.kp (Fn.binds bd_ways)
  | d + 1 => ⟨f, fd, ok_ways d Fn B (ways_all Fn hm B d), hm, Fn.kp, Fn.binds bd_ways⟩
theorem fillings_all {P : Program} {w : World} {K : PySem.W.Frag} {mg : Str → Option Value} {base : Heap} {f : Addr} {fd : FuncData} (Fn : Fun K "_law_fillings" "_law_fillings" s_fillings f fd) (hm : mg "_law_fillings" = some (.ref f)) (B : Bi mg) : ∀ d, Cal P w K mg base "_law_fillings" ["_law_rows", "_law_slots", "_law_parts"] d (spF d)
  | 0 => cal_never hm Fn.kp (Fn.binds bd_fillings)
  | d + 1 => ⟨f, fd, ok_fillings d Fn B (fillings_all Fn hm B d), hm, Fn.kp, Fn.binds bd_fillings⟩
theorem all_ok {P : Program} {w : World} {K : PySem.W.Frag} {mg : Str → Option Value} (base : Heap) {f : Addr} {fd : FuncData} (FL : Fun K "law" "law" s_law f fd) (B : Bi mg) (D_price_of : DefAt K mg "price_of" s_price_of) (D_cost_of : DefAt K mg "cost_of" s_cost_of) (D_is_floor : DefAt K mg "is_floor" s_is_floor) (D_is_ceiling : DefAt K mg "is_ceiling" s_is_ceiling) (D_tape : DefAt K mg "_law_tape" s_tape) (D_draw : DefAt K mg "_law_draw" s_draw) (D_price : DefAt K mg "_law_price" s_price) (D_family : DefAt K mg "_law_family" s_family) (D_size : DefAt K mg "_law_size" s_size) (D_sizes : DefAt K mg "_law_sizes" s_sizes) (D_priced : DefAt K mg "_law_priced" s_priced) (D_tree : DefAt K mg "_law_tree" s_tree) (D_ways : DefAt K mg "_law_ways" s_ways) (D_counts : DefAt K mg "_law_counts" s_counts) (D_reach : DefAt K mg "_law_reach" s_reach) (D_fillings : DefAt K mg "_law_fillings" s_fillings) (D_trees : DefAt K mg "_law_trees" s_trees) (D_some_tree : DefAt K mg "_law_some_tree" s_some_tree) (D_cost : DefAt K mg "_law_cost" s_cost) (D_judged : DefAt K mg "_law_judged" s_judged) (D_extreme : DefAt K mg "_law_extreme" s_extreme) (D_moved : DefAt K mg "_law_moved" s_moved) (D_price_table : DefAt K mg "_law_price_table" s_price_table) : FnOk P w K mg base CX0 6 f fd ["_law_script"] (spLaw K) := by
  have C_price_of : Cal P w K mg base "price_of" ["family", "tree"] 1 spPriceOf := by
    obtain ⟨f, fd, F, hm⟩ := D_price_of
    exact ⟨f, fd, ok_price_of F B, hm, F.kp, F.binds bd_price_of⟩
  have C_cost_of : Cal P w K mg base "cost_of" ["family", "table", "number"] 1 spCostOf := by
    obtain ⟨f, fd, F, hm⟩ := D_cost_of
    exact ⟨f, fd, ok_cost_of F, hm, F.kp, F.binds bd_cost_of⟩
  have C_is_floor : Cal P w K mg base "is_floor" ["family", "table"] 2 (spFloor 1) := by
    obtain ⟨f, fd, F, hm⟩ := D_is_floor
    exact ⟨f, fd, ok_is_floor F B C_cost_of, hm, F.kp, F.binds bd_is_floor⟩
  have C_is_ceiling : Cal P w K mg base "is_ceiling" ["family", "table"] 2 (spFloor (-1)) := by
    obtain ⟨f, fd, F, hm⟩ := D_is_ceiling
    exact ⟨f, fd, ok_is_ceiling F B C_cost_of, hm, F.kp, F.binds bd_is_ceiling⟩
  have C_tape : Cal P w K mg base "_law_tape" ["_law_script"] 1 (spTape K) := by
    obtain ⟨f, fd, F, hm⟩ := D_tape
    exact ⟨f, fd, ok_tape F B, hm, F.kp, F.binds bd_tape⟩
  have C_draw : Cal P w K mg base "_law_draw" ["_law_tape_here", "_law_menu"] 1 spDraw := by
    obtain ⟨f, fd, F, hm⟩ := D_draw
    exact ⟨f, fd, ok_draw F B, hm, F.kp, F.binds bd_draw⟩
  have C_price : Cal P w K mg base "_law_price" ["_law_tape_here", "_law_mode", "_law_low"] 2 spPrice := by
    obtain ⟨f, fd, F, hm⟩ := D_price
    exact ⟨f, fd, ok_price F C_draw, hm, F.kp, F.binds bd_price⟩
  have C_family : Cal P w K mg base "_law_family" ["_law_tape_here", "_law_states", "_law_variants", "_law_low"] 3 spFamily := by
    obtain ⟨f, fd, F, hm⟩ := D_family
    exact ⟨f, fd, ok_family F B C_draw C_price, hm, F.kp, F.binds bd_family⟩
  have C_size : Cal P w K mg base "_law_size" ["_law_variant", "_law_sizes_here"] 1 spSize := by
    obtain ⟨f, fd, F, hm⟩ := D_size
    exact ⟨f, fd, ok_size F, hm, F.kp, F.binds bd_size⟩
  have C_sizes : Cal P w K mg base "_law_sizes" ["_law_family_here"] 2 spSizes := by
    obtain ⟨f, fd, F, hm⟩ := D_sizes
    exact ⟨f, fd, ok_sizes F B C_size, hm, F.kp, F.binds bd_sizes⟩
  have C_priced : Cal P w K mg base "_law_priced" ["_law_family_here", "_law_tree_here"] 1 spPriceOf := by
    obtain ⟨f, fd, F, hm⟩ := D_priced
    exact ⟨f, fd, ok_priced F B, hm, F.kp, F.binds bd_priced⟩
  have C_tree : Cal P w K mg base "_law_tree" ["_law_tape_here", "_law_family_here", "_law_sizes_here", "_law_state", "_law_room"] 2 spTree := by
    obtain ⟨f, fd, F, hm⟩ := D_tree
    exact ⟨f, fd, ok_tree F B C_draw C_size, hm, F.kp, F.binds bd_tree⟩
  have C_ways : Cal P w K mg base "_law_ways" ["_law_counts_here", "_law_slots", "_law_parts"] 4 (spWays 3) := by
    obtain ⟨f, fd, F, hm⟩ := D_ways
    exact ways_all F hm B 4
  have C_counts : Cal P w K mg base "_law_counts" ["_law_family_here", "_law_top"] 5 spCounts := by
    obtain ⟨f, fd, F, hm⟩ := D_counts
    exact ⟨f, fd, ok_counts F B C_ways, hm, F.kp, F.binds bd_counts⟩
  have C_reach : Cal P w K mg base "_law_reach" ["_law_counts_here", "_law_limit"] 1 spReach := by
    obtain ⟨f, fd, F, hm⟩ := D_reach
    exact ⟨f, fd, ok_reach F B, hm, F.kp, F.binds bd_reach⟩
  have C_fillings : Cal P w K mg base "_law_fillings" ["_law_rows", "_law_slots", "_law_parts"] 4 (spFillings 3) := by
    obtain ⟨f, fd, F, hm⟩ := D_fillings
    exact fillings_all F hm B 4
  have C_trees : Cal P w K mg base "_law_trees" ["_law_family_here", "_law_top"] 5 spTrees := by
    obtain ⟨f, fd, F, hm⟩ := D_trees
    exact ⟨f, fd, ok_trees F B C_fillings, hm, F.kp, F.binds bd_trees⟩
  have C_some_tree : Cal P w K mg base "_law_some_tree" ["_law_tape_here", "_law_family_here", "_law_room"] 3 spSome := by
    obtain ⟨f, fd, F, hm⟩ := D_some_tree
    exact ⟨f, fd, ok_some_tree F B C_draw C_sizes C_tree, hm, F.kp, F.binds bd_some_tree⟩
  have C_cost : Cal P w K mg base "_law_cost" ["_law_variant", "_law_table"] 1 spCost := by
    obtain ⟨f, fd, F, hm⟩ := D_cost
    exact ⟨f, fd, ok_cost F, hm, F.kp, F.binds bd_cost⟩
  have C_judged : Cal P w K mg base "_law_judged" ["_law_family_here", "_law_table", "_law_sign"] 2 spJudged := by
    obtain ⟨f, fd, F, hm⟩ := D_judged
    exact ⟨f, fd, ok_judged F C_cost, hm, F.kp, F.binds bd_judged⟩
  have C_extreme : Cal P w K mg base "_law_extreme" ["_law_family_here", "_law_sign"] 2 spExtreme := by
    obtain ⟨f, fd, F, hm⟩ := D_extreme
    exact ⟨f, fd, ok_extreme F B C_cost, hm, F.kp, F.binds bd_extreme⟩
  have C_moved : Cal P w K mg base "_law_moved" ["_law_tape_here", "_law_family_here", "_law_sign"] 2 spMoved := by
    obtain ⟨f, fd, F, hm⟩ := D_moved
    exact ⟨f, fd, ok_moved F B C_draw, hm, F.kp, F.binds bd_moved⟩
  have C_price_table : Cal P w K mg base "_law_price_table" ["_law_tape_here", "_law_family_here", "_law_sign"] 3 spTable := by
    obtain ⟨f, fd, F, hm⟩ := D_price_table
    exact ⟨f, fd, ok_price_table F B C_draw C_moved C_extreme, hm, F.kp, F.binds bd_price_table⟩
  exact ok_law FL B C_tape C_draw C_family C_some_tree C_counts C_reach C_trees C_price_table C_judged C_is_floor C_is_ceiling C_price_of C_priced
theorem all_mk {l : PySem.W.OpenLaw} {w : World} {K : PySem.W.Frag} {h : Heap} {mg : Str → Option Value} {fa f : Addr} {od an : Option Addr} {sl : Array (Option Value)} {oc kV dc pm cd ct : Value} (X : K.In h) (G : h.Ns mainGlobals mg) (hfa : mg "law" = some (.ref fa)) (B : Bi mg) (D_price_of : DefAt K mg "price_of" s_price_of) (D_cost_of : DefAt K mg "cost_of" s_cost_of) (D_is_floor : DefAt K mg "is_floor" s_is_floor) (D_is_ceiling : DefAt K mg "is_ceiling" s_is_ceiling) (D_tape : DefAt K mg "_law_tape" s_tape) (D_draw : DefAt K mg "_law_draw" s_draw) (D_price : DefAt K mg "_law_price" s_price) (D_family : DefAt K mg "_law_family" s_family) (D_size : DefAt K mg "_law_size" s_size) (D_sizes : DefAt K mg "_law_sizes" s_sizes) (D_priced : DefAt K mg "_law_priced" s_priced) (D_tree : DefAt K mg "_law_tree" s_tree) (D_ways : DefAt K mg "_law_ways" s_ways) (D_counts : DefAt K mg "_law_counts" s_counts) (D_reach : DefAt K mg "_law_reach" s_reach) (D_fillings : DefAt K mg "_law_fillings" s_fillings) (D_trees : DefAt K mg "_law_trees" s_trees) (D_some_tree : DefAt K mg "_law_some_tree" s_some_tree) (D_cost : DefAt K mg "_law_cost" s_cost) (D_judged : DefAt K mg "_law_judged" s_judged) (D_extreme : DefAt K mg "_law_extreme" s_extreme) (D_moved : DefAt K mg "_law_moved" s_moved) (D_price_table : DefAt K mg "_law_price_table" s_price_table)
    (a : PySem.W.nsIn K mainGlobals "law" = some (some (.ref f))) (lk : K.lookup f = some ⟨oc, od, .func (PySem.W.fnOf "law" "law" (defArgs s_law) (defBody s_law) (defScope s_law) .none kV dc pm an cd ct), sl⟩) (c : PySem.W.codeIn K cd "law" = true) (k : PySem.W.keepIn K (.ref f) = true) :
    ∃ fd : FuncData, (∀ (s : Shared) (v : Value), BindsTo s fd ⟨[v], []⟩ [("_law_script", v)]) ∧ ∀ base : Heap, K.In base → base.Ns mainGlobals mg → FnOk l.prog w K mg base CX0 6 fa fd ["_law_script"] (spLaw K) := by
  have e := hfa.symm.trans (PySem.W.mg_of X G a)
  cases e
  exact ⟨PySem.W.fnOf "law" "law" (defArgs s_law) (defBody s_law) (defScope s_law) .none kV dc pm an cd ct, fun s v => .of_eq rfl, fun base _ _ => all_ok base (fun_mk (st := s_law) lk c k) B D_price_of D_cost_of D_is_floor D_is_ceiling D_tape D_draw D_price D_family D_size D_sizes D_priced D_tree D_ways D_counts D_reach D_fillings D_trees D_some_tree D_cost D_judged D_extreme D_moved D_price_table⟩
end K39
open PySem PySem.W PyProof.Rows
set_option maxRecDepth 100000 in
set_option maxHeartbeats 0 in
theorem PySem.Challenge.cw_slotwise_k39_whole_tables_bar_prices_holds : PySem.Challenge.rw_slotwise_k39_whole_tables_bar_prices.Holds := by
  w_on; o_law; k_head; (case hw => w_witness2)
  k_fill
  refine L2.walk_of (l := PySem.Challenge.rw_slotwise_k39_whole_tables_bar_prices) (n := 63) (k := 6) (x := "_law_script") (CX := fun _ => L2.CX0) (sp := fun w => K39.spLaw _) rfl (by decide) rfl ⟨rfl, by decide, by decide⟩ (fun w h Y => PySem.W.kIn_of Y) ?F (fun _ _ a ns hl _ hS => ⟨a, ns, rfl, hS, hl, fun _ => rfl⟩) (fun _ _ _ _ _ z => z)
  case F =>
    intro w mg fa h KX G hmg
    refine' K39.all_mk KX G hmg ?b ?d_price_of ?d_cost_of ?d_is_floor ?d_is_ceiling ?d_tape ?d_draw ?d_price ?d_family ?d_size ?d_sizes ?d_priced ?d_tree ?d_ways ?d_counts ?d_reach ?d_fillings ?d_trees ?d_some_tree ?d_cost ?d_judged ?d_extreme ?d_moved ?d_price_table ?a ?l ?c ?k
    (case b => (refine' ⟨PySem.W.mg_none_of KX G ?_, PySem.W.mg_none_of KX G ?_, PySem.W.mg_none_of KX G ?_, PySem.W.mg_none_of KX G ?_, PySem.W.mg_none_of KX G ?_, PySem.W.mg_none_of KX G ?_, PySem.W.mg_none_of KX G ?_, PySem.W.mg_none_of KX G ?_, PySem.W.mg_none_of KX G ?_, PySem.W.mg_none_of KX G ?_, PySem.W.mg_none_of KX G ?_, PySem.W.mg_none_of KX G ?_⟩ <;> k_is))
    (case d_price_of => refine' K39.def_mk KX G ?a1 ?l1 ?c1 ?k1; (case a1 => k_is); (case l1 => k_is); (case c1 => k_is); (case k1 => k_is))
    (case d_cost_of => refine' K39.def_mk KX G ?a1 ?l1 ?c1 ?k1; (case a1 => k_is); (case l1 => k_is); (case c1 => k_is); (case k1 => k_is))
    (case d_is_floor => refine' K39.def_mk KX G ?a1 ?l1 ?c1 ?k1; (case a1 => k_is); (case l1 => k_is); (case c1 => k_is); (case k1 => k_is))
    (case d_is_ceiling => refine' K39.def_mk KX G ?a1 ?l1 ?c1 ?k1; (case a1 => k_is); (case l1 => k_is); (case c1 => k_is); (case k1 => k_is))
    (case d_tape => refine' K39.def_mk KX G ?a1 ?l1 ?c1 ?k1; (case a1 => k_is); (case l1 => k_is); (case c1 => k_is); (case k1 => k_is))
    (case d_draw => refine' K39.def_mk KX G ?a1 ?l1 ?c1 ?k1; (case a1 => k_is); (case l1 => k_is); (case c1 => k_is); (case k1 => k_is))
    (case d_price => refine' K39.def_mk KX G ?a1 ?l1 ?c1 ?k1; (case a1 => k_is); (case l1 => k_is); (case c1 => k_is); (case k1 => k_is))
    (case d_family => refine' K39.def_mk KX G ?a1 ?l1 ?c1 ?k1; (case a1 => k_is); (case l1 => k_is); (case c1 => k_is); (case k1 => k_is))
    (case d_size => refine' K39.def_mk KX G ?a1 ?l1 ?c1 ?k1; (case a1 => k_is); (case l1 => k_is); (case c1 => k_is); (case k1 => k_is))
    (case d_sizes => refine' K39.def_mk KX G ?a1 ?l1 ?c1 ?k1; (case a1 => k_is); (case l1 => k_is); (case c1 => k_is); (case k1 => k_is))
    (case d_priced => refine' K39.def_mk KX G ?a1 ?l1 ?c1 ?k1; (case a1 => k_is); (case l1 => k_is); (case c1 => k_is); (case k1 => k_is))
    (case d_tree => refine' K39.def_mk KX G ?a1 ?l1 ?c1 ?k1; (case a1 => k_is); (case l1 => k_is); (case c1 => k_is); (case k1 => k_is))
    (case d_ways => refine' K39.def_mk KX G ?a1 ?l1 ?c1 ?k1; (case a1 => k_is); (case l1 => k_is); (case c1 => k_is); (case k1 => k_is))
    (case d_counts => refine' K39.def_mk KX G ?a1 ?l1 ?c1 ?k1; (case a1 => k_is); (case l1 => k_is); (case c1 => k_is); (case k1 => k_is))
    (case d_reach => refine' K39.def_mk KX G ?a1 ?l1 ?c1 ?k1; (case a1 => k_is); (case l1 => k_is); (case c1 => k_is); (case k1 => k_is))
    (case d_fillings => refine' K39.def_mk KX G ?a1 ?l1 ?c1 ?k1; (case a1 => k_is); (case l1 => k_is); (case c1 => k_is); (case k1 => k_is))
    (case d_trees => refine' K39.def_mk KX G ?a1 ?l1 ?c1 ?k1; (case a1 => k_is); (case l1 => k_is); (case c1 => k_is); (case k1 => k_is))
    (case d_some_tree => refine' K39.def_mk KX G ?a1 ?l1 ?c1 ?k1; (case a1 => k_is); (case l1 => k_is); (case c1 => k_is); (case k1 => k_is))
    (case d_cost => refine' K39.def_mk KX G ?a1 ?l1 ?c1 ?k1; (case a1 => k_is); (case l1 => k_is); (case c1 => k_is); (case k1 => k_is))
    (case d_judged => refine' K39.def_mk KX G ?a1 ?l1 ?c1 ?k1; (case a1 => k_is); (case l1 => k_is); (case c1 => k_is); (case k1 => k_is))
    (case d_extreme => refine' K39.def_mk KX G ?a1 ?l1 ?c1 ?k1; (case a1 => k_is); (case l1 => k_is); (case c1 => k_is); (case k1 => k_is))
    (case d_moved => refine' K39.def_mk KX G ?a1 ?l1 ?c1 ?k1; (case a1 => k_is); (case l1 => k_is); (case c1 => k_is); (case k1 => k_is))
    (case d_price_table => refine' K39.def_mk KX G ?a1 ?l1 ?c1 ?k1; (case a1 => k_is); (case l1 => k_is); (case c1 => k_is); (case k1 => k_is))
    (case a => k_is); (case l => k_is); (case c => k_is); (case k => k_is)
