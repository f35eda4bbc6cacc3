import PyProof.Rows.All
import KE.KeyNested
import Wide.All
import OpenK.AllK
import Wide.FinOn
import KE.DataEq
import HandS.Base
import HandS.Call
import HandS.List
import HandS.Words
import HandS.WordsList
import PyProof.DictMoreH
import HandS.Dict
import HandS.WordsDict
import KE.GoesComp
import HandS.Comp
import HandS.Exc
import KE.KIsAll
import HandS.ClsMeth
import HandS.ExcInit
import HandS.ExcIs
import HandS.ExcField
import HandS.IsInst
import PyProof.SliceList
import KE.KDictSum
import HandS.More
import HandS.Rev
import HandS.Zip
import HandS.SortInts
import PySem.Challenge.RW_papervault_k42_papers_checked
import HandS.Iter
import HandS.Flow
import HandS.Text
import HandS.Ends
import HandS.ExcOwn
import HandS.WordsExc
import HandS.Defaults
import HandS.HeadHook1
import HandS.Wide
import HandS.Strs
import KE.KStateDown
import HandS.Head0
import HandS.Head1
import HandS.Head2
import HandS.HeadEnd
import HandS.HeadHook2
set_option Elab.async false
set_option linter.all false
/-! What the program computes, in plain Lean: things, codes, sides, stores, vaults, programs over a vault. -/
namespace Pv
open PySem

abbrev Th := NestedKey

/-! ### codes and numbers of things -/
def cMOST : Int := 2305843009213693951
def cBASE : Int := 1234567890123456789
def cHALF : Int := 1000000000000000
def cLEAST : Int := 1000000000000000000000000000000

def codeOf (l : List Nat) : Int := l.foldl (fun (c : Int) (s : Nat) => 128 * c + (s : Int)) 0
def textCodes (l : List Nat) : List Int := (List.range ((l.length + 6) / 7)).map fun k => codeOf ((l.drop (7 * k)).take 7)
mutual
def codesOf : Th → List Int
  | .none => [1]
  | .num i => [2, (i + cLEAST) / cHALF, (i + cLEAST) % cHALF]
  | .text x => 3 :: (x.length : Int) :: textCodes x.cps.toList
  | .tup l => 4 :: (l.length : Int) :: codesAll l
def codesAll : List Th → List Int
  | [] => []
  | t :: ts => codesOf t ++ codesAll ts
end
def step (h c : Int) : Int := (h * cBASE + c) % cMOST
def sealOf (t : Th) : Int := (codesOf t).foldl step 7 + 1
theorem fold_range : ∀ (l : List Int) (h : Int), 0 ≤ h → h < cMOST → 0 ≤ l.foldl step h ∧ l.foldl step h < cMOST
  | [], h, h0, h1 => ⟨h0, h1⟩
  | c :: l, h, _, _ => fold_range l (step h c) (Int.emod_nonneg _ (by decide)) (Int.emod_lt_of_pos _ (by decide))
theorem sealOf_pos (t : Th) : 1 ≤ sealOf t := by
  have := (fold_range (codesOf t) 7 (by decide) (by decide)).1
  unfold sealOf; omega
theorem sealOf_le (t : Th) : sealOf t ≤ cMOST := by
  have := (fold_range (codesOf t) 7 (by decide) (by decide)).2
  unfold sealOf; omega

/-! ### the order -/
def kindOf : Th → Int
  | .none => 0
  | .num _ => 1
  | .text _ => 2
  | .tup _ => 3
def lessI (b : Bool) : Int := 1 - 2 * (if b = true then 1 else 0)
mutual
def sideOf : Th → Th → Int
  | .num i, .num j => if i = j then 0 else lessI (decide (i < j))
  | .text x, .text y => if x = y then 0 else lessI (decide (x.cps.toList < y.cps.toList))
  | .tup l, .tup m => if NestedKey.beq (.tup l) (.tup m) = true then 0 else sideAll l m
  | .none, .none => 0
  | .none, .num _ => lessI true
  | .none, .text _ => lessI true
  | .none, .tup _ => lessI true
  | .num _, .none => lessI false
  | .num _, .text _ => lessI true
  | .num _, .tup _ => lessI true
  | .text _, .none => lessI false
  | .text _, .num _ => lessI false
  | .text _, .tup _ => lessI true
  | .tup _, .none => lessI false
  | .tup _, .num _ => lessI false
  | .tup _, .text _ => lessI false
def sideAll : List Th → List Th → Int
  | a :: as, b :: bs => if sideOf a b ≠ 0 then sideOf a b else sideAll as bs
  | [], [] => lessI false
  | [], _ :: _ => lessI true
  | _ :: _, [] => lessI false
end
def ahead (a b : Th) : Bool := decide (sideOf a b < 0)
def rankOf (k : Th) : Int := sealOf (.tup [.text (Str.ofString "rank"), k])
def above (a b : Th) : Bool := decide (rankOf a > rankOf b) || (decide (rankOf a = rankOf b) && ahead a b)

/-! ### what may be laid -/
def OkTx (x : Str) : Prop := x.length ≤ 60 ∧ ∀ c ∈ x.cps.toList, 32 ≤ c ∧ c ≤ 126 ∧ c ≠ 37
mutual
def Ok : Nat → Th → Prop
  | _, .none => True
  | _, .num i => -cLEAST ≤ i ∧ i ≤ cLEAST
  | _, .text x => OkTx x
  | d, .tup l => 0 < d ∧ l.length ≤ 40 ∧ OkAll (d - 1) l
def OkAll : Nat → List Th → Prop
  | _, [] => True
  | d, t :: ts => Ok d t ∧ OkAll d ts
end
theorem OkAll_iff {d : Nat} : ∀ {l : List Th}, OkAll d l ↔ ∀ t ∈ l, Ok d t
  | [] => by simp [OkAll]
  | t :: ts => by simp [OkAll, OkAll_iff (l := ts)]
mutual
theorem Ok.mono {d e : Nat} (h : d ≤ e) : ∀ {t : Th}, Ok d t → Ok e t
  | .none, _ => by simp [Ok]
  | .num _, x => by simpa [Ok] using x
  | .text _, x => by simpa [Ok] using x
  | .tup l, x => by
    simp only [Ok] at x ⊢
    exact ⟨by omega, x.2.1, OkAll.mono (by omega) x.2.2⟩
theorem OkAll.mono {d e : Nat} (h : d ≤ e) : ∀ {l : List Th}, OkAll d l → OkAll e l
  | [], _ => by simp [OkAll]
  | t :: ts, x => by
    simp only [OkAll] at x ⊢
    exact ⟨Ok.mono h x.1, OkAll.mono h x.2⟩
end
mutual
theorem Ok.depth {d : Nat} : ∀ {t : Th}, Ok d t → t.depth ≤ d
  | .none, _ => Nat.zero_le _
  | .num _, _ => Nat.zero_le _
  | .text _, _ => Nat.zero_le _
  | .tup l, x => by
    simp only [Ok] at x
    have := OkAll.depth x.2.2
    simp only [NestedKey.depth]
    omega
theorem OkAll.depth {d : Nat} : ∀ {l : List Th}, OkAll d l → NestedKey.depthAll l ≤ d
  | [], _ => Nat.zero_le _
  | t :: ts, x => by
    simp only [OkAll] at x
    have h1 := Ok.depth x.1
    have h2 := OkAll.depth x.2
    simp only [NestedKey.depthAll]
    omega
end
theorem Ok.num_small {d : Nat} {i : Int} (h0 : 0 ≤ i) (h1 : i ≤ cMOST) : Ok d (.num i) := by
  simp only [Ok]
  unfold cMOST at h1
  unfold cLEAST
  omega

/-! ### stores -/
abbrev Store := List (Int × Th)
def Store.get (s : Store) (n : Int) : Option Th := (s.find? fun p => decide (p.1 = n)).map (·.2)
def Store.put (s : Store) (n : Int) (t : Th) : Store := if (s.any fun p => decide (p.1 = n)) = true then s.map (fun p => if p.1 = n then (p.1, t) else p) else s ++ [(n, t)]
structure Store.Good (s : Store) : Prop where
  nd : (s.map (·.1)).Nodup
  ok : ∀ p ∈ s, Ok 3 p.2 ∧ sealOf p.2 = p.1
theorem Store.get_nil (n : Int) : Store.get [] n = none := rfl
theorem Store.get_cons (p : Int × Th) (s : Store) (n : Int) : Store.get (p :: s) n = if p.1 = n then some p.2 else Store.get s n := by
  unfold Store.get
  by_cases h : p.1 = n
  · simp [h]
  · simp [h]
theorem Store.get_mem {s : Store} {n : Int} {t : Th} : Store.get s n = some t → (n, t) ∈ s := by
  induction s with
  | nil => intro h; cases h
  | cons p s ih =>
    intro h
    rw [Store.get_cons] at h
    by_cases e : p.1 = n
    · rw [if_pos e] at h
      have : p = (n, t) := by rw [← e, ← Option.some.inj h]
      rw [this]; exact List.mem_cons_self
    · rw [if_neg e] at h
      exact List.mem_cons_of_mem _ (ih h)
theorem Store.mem_get {s : Store} (hn : (s.map (·.1)).Nodup) {n : Int} {t : Th} : (n, t) ∈ s → Store.get s n = some t := by
  induction s with
  | nil => intro h; cases h
  | cons p s ih =>
    intro h
    rw [List.map_cons, List.nodup_cons] at hn
    rw [Store.get_cons]
    rcases List.mem_cons.mp h with e | h
    · rw [← e]; simp
    · have : ¬ p.1 = n := fun e => hn.1 (e ▸ List.mem_map.mpr ⟨_, h, rfl⟩)
      rw [if_neg this]
      exact ih hn.2 h
theorem Store.any_iff {s : Store} {n : Int} : (s.any fun p => decide (p.1 = n)) = (Store.get s n).isSome := by
  induction s with
  | nil => rfl
  | cons p s ih =>
    rw [List.any_cons, Store.get_cons, ih]
    by_cases h : p.1 = n <;> simp [h]
theorem Store.get_map {n : Int} {t : Th} (m : Int) : ∀ s : Store, Store.get (s.map fun p => if p.1 = n then (p.1, t) else p) m = (Store.get s m).map fun x => if m = n then t else x
  | [] => rfl
  | p :: s => by
    rw [List.map_cons, Store.get_cons, Store.get_cons, Store.get_map m s]
    by_cases h : p.1 = n
    · rw [if_pos h]
      by_cases h2 : p.1 = m
      · have : m = n := h2.symm.trans h
        simp [h2, this]
      · simp [h2]
    · rw [if_neg h]
      by_cases h2 : p.1 = m
      · have : ¬ m = n := fun e => h (h2.trans e)
        simp [h2, this]
      · simp [h2]
theorem Store.get_snoc {n : Int} {t : Th} (m : Int) : ∀ s : Store, Store.get (s ++ [(n, t)]) m = (Store.get s m).or (if n = m then some t else none)
  | [] => by
    show Store.get [(n, t)] m = _
    rw [Store.get_cons]; rfl
  | p :: s => by
    rw [List.cons_append, Store.get_cons, Store.get_cons, Store.get_snoc m s]
    by_cases h : p.1 = m <;> simp [h]
theorem Store.get_put (s : Store) (n m : Int) (t : Th) : Store.get (s.put n t) m = if m = n then some t else Store.get s m := by
  unfold Store.put
  rw [Store.any_iff]
  cases e : Store.get s n with
  | some x =>
    rw [if_pos (by rfl), Store.get_map]
    by_cases h : m = n
    · subst h; simp [e]
    · simp [h]
  | none =>
    rw [if_neg (by simp), Store.get_snoc]
    by_cases h : m = n
    · subst h; simp [e]
    · have h' : ¬ n = m := fun q => h q.symm
      simp [h, h']
theorem Store.Good.nil : Store.Good [] := ⟨List.nodup_nil, fun _ h => by cases h⟩
theorem Store.keys_put (s : Store) (n : Int) (t : Th) : (s.put n t).map (·.1) = if (Store.get s n).isSome = true then s.map (·.1) else s.map (·.1) ++ [n] := by
  unfold Store.put
  rw [Store.any_iff]
  split
  · rw [List.map_map]
    refine List.map_congr_left fun p _ => ?_
    by_cases h : p.1 = n <;> simp [h]
  · rw [List.map_append]; rfl
theorem Store.Good.put {s : Store} (g : s.Good) {t : Th} (h : Ok 3 t) : (s.put (sealOf t) t).Good := by
  refine ⟨?_, fun p hp => ?_⟩
  · rw [Store.keys_put]
    split
    · exact g.nd
    · rename_i hn
      rw [List.nodup_append]
      refine ⟨g.nd, by simp, fun a ha b hb => ?_⟩
      simp only [List.mem_singleton] at hb
      subst hb
      intro e
      subst e
      obtain ⟨p, hp, e⟩ := List.mem_map.mp ha
      have := Store.mem_get g.nd (n := p.1) (t := p.2) hp
      rw [e] at this
      rw [this] at hn
      exact hn rfl
  · unfold Store.put at hp
    split at hp
    · obtain ⟨q, hq, rfl⟩ := List.mem_map.mp hp
      by_cases e : q.1 = sealOf t
      · rw [if_pos e]; exact ⟨h, e.symm⟩
      · rw [if_neg e]; exact g.ok q hq
    · rcases List.mem_append.mp hp with hp | hp
      · exact g.ok p hp
      · simp only [List.mem_singleton] at hp
        subst hp
        exact ⟨h, rfl⟩
theorem Store.Good.get {s : Store} (g : s.Good) {n : Int} {t : Th} (h : Store.get s n = some t) : Ok 3 t ∧ sealOf t = n := g.ok _ (Store.get_mem h)

/-! ### vaults -/
inductive VS where
  | base (s : Store)
  | reader (keep own noted : Store)
def VS.Good : VS → Prop
  | .base s => s.Good
  | .reader k o n => k.Good ∧ o.Good ∧ n.Good
def VS.thing : VS → Int → Option (Th × VS)
  | .base s, n => match Store.get s n with
    | some t => some (t, .base s)
    | none => none
  | .reader k o m, n => match Store.get o n with
    | some t => some (t, .reader k o m)
    | none => match Store.get k n with
      | some t => some (t, .reader k o (m.put n t))
      | none => none
/-- laid, or the other thing -/
def Store.laid (s : Store) (t : Th) : Option Th := match Store.get s (sealOf t) with
  | some x => if x = t then none else some x
  | none => none
def VS.lay : VS → Th → Except Th VS
  | .base s, t => match s.laid t with
    | some x => .error x
    | none => .ok (.base (s.put (sealOf t) t))
  | .reader k o m, t => match k.laid t with
    | some x => .error x
    | none => match o.laid t with
      | some x => .error x
      | none => .ok (.reader k (o.put (sealOf t) t) m)
def VS.view : VS → Int → Option Th
  | .base s, n => Store.get s n
  | .reader k o _, n => (Store.get o n).or (Store.get k n)

/-! ### programs over a vault -/
inductive Pg (α : Type) : Type where
  | ret (a : α)
  | thing (n : Int) (k : Th → Pg α)
  | lay (t : Th) (k : Int → Pg α)
  | bad
namespace Pg
def bind {α β : Type} : Pg α → (α → Pg β) → Pg β
  | .ret a, f => f a
  | .thing n k, f => .thing n fun t => bind (k t) f
  | .lay t k, f => .lay t fun n => bind (k n) f
  | .bad, _ => .bad
end Pg
inductive Ex where
  | noPaper
  | clash (x y : Th)
/-- a clash of two unlike things with one seal -/
def Ex.Sound : Ex → Prop
  | .noPaper => True
  | .clash x y => x ≠ y ∧ sealOf x = sealOf y ∧ Ok 3 x ∧ Ok 3 y
def wp {α : Type} : Pg α → VS → (α → VS → Prop) → (Ex → Prop) → Prop
  | .ret a, s, Q, _ => Q a s
  | .thing n k, s, Q, E => match s.thing n with
    | some (t, s') => wp (k t) s' Q E
    | none => E .noPaper
  | .lay t k, s, Q, E => Ok 3 t ∧ match s.lay t with
    | .ok s' => wp (k (sealOf t)) s' Q E
    | .error x => E (.clash x t)
  | .bad, _, _, _ => False
section
variable {α : Type} {n : Int} {k : Th → Pg α} {j : Int → Pg α} {t x : Th} {s s' : VS} {Q : α → VS → Prop} {E : Ex → Prop}
theorem wp_thing_some (e : s.thing n = some (t, s')) : wp (.thing n k) s Q E = wp (k t) s' Q E := by
  simp only [wp]
  rw [e]
theorem wp_thing_none (e : s.thing n = none) : wp (.thing n k) s Q E = E .noPaper := by
  simp only [wp]
  rw [e]
theorem wp_lay_ok (e : s.lay t = .ok s') : wp (.lay t j) s Q E = (Ok 3 t ∧ wp (j (sealOf t)) s' Q E) := by
  simp only [wp]
  rw [e]
theorem wp_lay_error (e : s.lay t = .error x) : wp (.lay t j) s Q E = (Ok 3 t ∧ E (.clash x t)) := by
  simp only [wp]
  rw [e]
end
theorem wp_mono {α : Type} : ∀ (P : Pg α) (s : VS) {Q Q' : α → VS → Prop} {E E' : Ex → Prop}, (∀ a s', Q a s' → Q' a s') → (∀ e, E e → E' e) → wp P s Q E → wp P s Q' E'
  | .ret a, s, _, _, _, _, hq, _, h => hq a s h
  | .thing n k, s, _, _, _, _, hq, he, h => by
    cases e : s.thing n with
    | some p =>
      rw [wp_thing_some (t := p.1) (s' := p.2) e] at h ⊢
      exact wp_mono (k p.1) p.2 hq he h
    | none =>
      rw [wp_thing_none e] at h ⊢
      exact he _ h
  | .lay t k, s, _, _, _, _, hq, he, h => by
    cases e : s.lay t with
    | ok s' =>
      rw [wp_lay_ok e] at h ⊢
      exact ⟨h.1, wp_mono (k _) s' hq he h.2⟩
    | error x =>
      rw [wp_lay_error e] at h ⊢
      exact ⟨h.1, he _ h.2⟩
  | .bad, _, _, _, _, _, _, _, h => h
theorem wp_bind_iff {α β : Type} : ∀ (P : Pg α) (f : α → Pg β) (s : VS) {Q : β → VS → Prop} {E : Ex → Prop}, wp (P.bind f) s Q E ↔ wp P s (fun a s' => wp (f a) s' Q E) E
  | .ret a, f, s, _, _ => Iff.rfl
  | .thing n k, f, s, Q, E => by
    show wp (.thing n fun t => (k t).bind f) s Q E ↔ _
    cases e : s.thing n with
    | some p =>
      rw [wp_thing_some (t := p.1) (s' := p.2) e, wp_thing_some (t := p.1) (s' := p.2) e]
      exact wp_bind_iff (k p.1) f p.2
    | none =>
      rw [wp_thing_none e, wp_thing_none e]
  | .lay t k, f, s, Q, E => by
    show wp (.lay t fun n => (k n).bind f) s Q E ↔ _
    cases e : s.lay t with
    | ok s' =>
      rw [wp_lay_ok e, wp_lay_ok e, wp_bind_iff (k _) f s']
    | error x =>
      rw [wp_lay_error e, wp_lay_error e]
  | .bad, _, _, _, _ => Iff.rfl
theorem wp_bind {α β : Type} {P : Pg α} {f : α → Pg β} {s : VS} {Q : β → VS → Prop} {E : Ex → Prop} (h : wp (P.bind f) s Q E) : wp P s (fun a s' => wp (f a) s' Q E) E := (wp_bind_iff P f s).mp h

/-! ### nodes -/
structure Nd where
  key : Th
  worth : Th
  left : Int
  right : Int
  count : Int
def Nd.th (n : Nd) : Th := .tup [n.key, n.worth, .num n.left, .num n.right, .num n.count]
def Nd.okB (n : Nd) : Bool := decide (n.key ≠ .none) && decide (n.worth ≠ .none) && decide (0 ≤ n.left) && decide (0 ≤ n.right) && decide (1 ≤ n.count) && decide (n.count ≤ 300)
def asNd : Th → Option Nd
  | .tup [k, w, .num l, .num r, .num c] => if (Nd.mk k w l r c).okB = true then some ⟨k, w, l, r, c⟩ else none
  | _ => none
theorem asNd_some {t : Th} {n : Nd} (h : asNd t = some n) : t = n.th ∧ n.okB = true := by
  unfold asNd at h
  split at h
  · split at h
    · rename_i hb
      cases h
      exact ⟨rfl, hb⟩
    · cases h
  · cases h
theorem asNd_th {n : Nd} (h : n.okB = true) : asNd n.th = some n := by
  unfold asNd Nd.th
  exact if_pos h
structure Nd.Is (n : Nd) : Prop where
  k0 : n.key ≠ .none
  w0 : n.worth ≠ .none
  l0 : 0 ≤ n.left
  r0 : 0 ≤ n.right
  c1 : 1 ≤ n.count
  c3 : n.count ≤ 300
theorem Nd.is_of {n : Nd} (h : n.okB = true) : n.Is := by
  unfold Nd.okB at h
  simp only [Bool.and_eq_true, decide_eq_true_eq] at h
  obtain ⟨⟨⟨⟨⟨a, b⟩, c⟩, d⟩, e⟩, f⟩ := h
  exact ⟨a, b, c, d, e, f⟩
theorem Nd.Is.okB {n : Nd} (h : n.Is) : n.okB = true := by
  unfold Nd.okB
  simp only [Bool.and_eq_true, decide_eq_true_eq]
  exact ⟨⟨⟨⟨⟨h.k0, h.w0⟩, h.l0⟩, h.r0⟩, h.c1⟩, h.c3⟩
def node (k w : Th) (l r c : Int) : Th := .tup [k, w, .num l, .num r, .num c]

def nodeAt (root : Int) : Pg Nd := .thing root fun t => match asNd t with
  | some n => .ret n
  | none => .bad
def nodeBeneath (root count : Int) : Pg Nd := (nodeAt root).bind fun n => if n.count ≥ count then .bad else .ret n
def sizeP (root : Int) : Pg Int := if root = 0 then .ret 0 else (nodeAt root).bind fun n => .ret n.count
def sizeBeneath (root count : Int) : Pg Int := if root = 0 then .ret 0 else (nodeBeneath root count).bind fun n => .ret n.count

/-! ### trees. The first number is the fuel -/
def foundP (key : Th) : Nat → Int → Int → Pg Th
  | 0, _, _ => .bad
  | f + 1, count, root => if root = 0 then .ret .none else (nodeBeneath root count).bind fun n =>
    if n.key = key then .ret n.worth else foundP key f n.count (if ahead key n.key = true then n.left else n.right)
def goesLeft (low key : Th) : Bool := decide (low = .none) || ahead low key
def goesRight (high key : Th) : Bool := decide (high = .none) || ahead key high
def isWithin (low high key : Th) : Bool := (decide (low = .none) || !ahead key low) && goesRight high key
def isEmpty (low high : Th) : Bool := decide (low ≠ .none) && (decide (high ≠ .none) && !ahead low high)
def needCounted (n : Nd) : Pg Unit := (sizeBeneath n.left n.count).bind fun a => (sizeBeneath n.right n.count).bind fun b => if a + b + 1 ≠ n.count then .bad else .ret ()
inductive Wt where
  | tree (root count : Int)
  | pair (k w : Th)
def pairT (p : Th × Th) : Th := .tup [p.1, p.2]
def stretchP (low high : Th) : Nat → List Wt → List (Th × Th) → Pg (List (Th × Th))
  | 0, _, _ => .bad
  | _ + 1, [], acc => .ret acc
  | f + 1, .pair k w :: ws, acc => stretchP low high f ws (acc ++ [(k, w)])
  | f + 1, .tree root count :: ws, acc => if root = 0 then stretchP low high f ws acc else (nodeBeneath root count).bind fun n =>
    (if (goesLeft low n.key && goesRight high n.key) = true then needCounted n else .ret ()).bind fun _ =>
      stretchP low high f ((if goesLeft low n.key = true then [.tree n.left n.count] else []) ++ ((if isWithin low high n.key = true then [.pair n.key n.worth] else []) ++
        ((if goesRight high n.key = true then [.tree n.right n.count] else []) ++ ws))) acc
def stretchW (root : Int) (low high : Th) : Pg (List (Th × Th)) := if isEmpty low high = true then .ret [] else stretchP low high 1000 [.tree root 301] []
def aheadOfP (key : Th) : Nat → Int → Int → Int → Pg Int
  | 0, _, _, _ => .bad
  | f + 1, count, root, many => if root = 0 then .ret many else (nodeBeneath root count).bind fun n =>
    if n.key = key then (sizeBeneath n.left n.count).bind fun a => .ret (many + a)
    else if ahead n.key key = true then (sizeBeneath n.right n.count).bind fun a => aheadOfP key f n.count n.right (many + (n.count - a))
    else aheadOfP key f n.count n.left many
def aheadOf (root : Int) (key : Th) : Pg Int := aheadOfP key 302 301 root 0
def counted (root : Int) (low high : Th) : Pg Int := if isEmpty low high = true then .ret 0 else
  (if low ≠ .none then aheadOf root low else .ret 0).bind fun a =>
    if high = .none then (sizeP root).bind fun b => .ret (b - a) else (aheadOf root high).bind fun b => .ret (b - a)
def nthP : Nat → Int → Int → Int → Pg Th
  | 0, _, _, _ => .bad
  | f + 1, count, root, number => if root = 0 then .ret .none else (nodeBeneath root count).bind fun n =>
    (sizeBeneath n.left n.count).bind fun many =>
      if number = many then .ret (pairT (n.key, n.worth)) else if number > many then nthP f n.count n.right (number - (many + 1)) else nthP f n.count n.left number
def nthW (root number : Int) : Pg Th := if number < 0 then .ret .none else nthP 302 301 root number
def partWay (key : Th) : Nat → Int → Int → List Nd → Pg (List Nd)
  | 0, _, _, _ => .bad
  | f + 1, count, root, way => if root = 0 then .ret way else (nodeBeneath root count).bind fun n =>
    partWay key f n.count (if ahead n.key key = true then n.right else n.left) (way ++ [n])
def partUp (key : Th) : List Nd → Int → Int → Int → Int → Int → Pg (Int × Int)
  | [], left, right, _, _, _ => .ret (left, right)
  | n :: ns, left, right, lesser, greater, beneath => if ahead n.key key = true
    then .lay (node n.key n.worth n.left left (lesser + (n.count - beneath))) fun x => partUp key ns x right (lesser + (n.count - beneath)) greater n.count
    else .lay (node n.key n.worth right n.right (greater + (n.count - beneath))) fun x => partUp key ns left x lesser (greater + (n.count - beneath)) n.count
def partP (root : Int) (key : Th) : Pg (Int × Int) := (partWay key 302 301 root []).bind fun way => partUp key way.reverse 0 0 0 0 0
def joinWay : Nat → Int → Int → Int → Int → List (Nd × Bool × Int) → Pg (Int × List (Nd × Bool × Int))
  | 0, _, _, _, _, _ => .bad
  | f + 1, one, other, left, right, way => if left = 0 then .ret (right, way) else if right = 0 then .ret (left, way) else
    (nodeBeneath left one).bind fun a => (nodeBeneath right other).bind fun b =>
      if above a.key b.key = true then joinWay f a.count other a.right right (way ++ [(a, true, a.count + b.count)])
      else joinWay f one b.count left b.left (way ++ [(b, false, a.count + b.count)])
def joinUp : List (Nd × Bool × Int) → Int → Pg Int
  | [], root => .ret root
  | (n, true, c) :: ns, root => .lay (node n.key n.worth n.left root c) fun x => joinUp ns x
  | (n, false, c) :: ns, root => .lay (node n.key n.worth root n.right c) fun x => joinUp ns x
def joined (left right most : Int) : Pg Int := (joinWay 700 most most left right []).bind fun r => joinUp r.2.reverse r.1
def rebuilt (key : Th) (more : Int) : List Nd → Int → Pg Int
  | [], root => .ret root
  | n :: ns, root => if ahead key n.key = true then .lay (node n.key n.worth root n.right (n.count + more)) fun x => rebuilt key more ns x
    else .lay (node n.key n.worth n.left root (n.count + more)) fun x => rebuilt key more ns x
def putP (key worth : Th) : Nat → Int → Int → List Nd → Pg Int
  | 0, _, _, _ => .bad
  | f + 1, count, root, way => if root = 0 then .lay (node key worth 0 0 1) fun x => rebuilt key 1 way.reverse x else (nodeBeneath root count).bind fun n =>
    if n.key = key then .lay (node key worth n.left n.right n.count) fun x => rebuilt key 0 way.reverse x
    else if above key n.key = true then (partP root key).bind fun lr => .lay (node key worth lr.1 lr.2 (n.count + 1)) fun x => rebuilt key 1 way.reverse x
    else putP key worth f n.count (if ahead key n.key = true then n.left else n.right) (way ++ [n])
def putW (root : Int) (key worth : Th) : Pg Int := putP key worth 302 301 root []
def cutP (key : Th) (whole : Int) : Nat → Int → Int → List Nd → Pg Int
  | 0, _, _, _ => .bad
  | f + 1, count, root, way => if root = 0 then .ret whole else (nodeBeneath root count).bind fun n =>
    if n.key = key then (joined n.left n.right n.count).bind fun x => rebuilt key (-1) way.reverse x
    else cutP key whole f n.count (if ahead key n.key = true then n.left else n.right) (way ++ [n])
def cutW (root : Int) (key : Th) : Pg Int := cutP key root 302 301 root []

/-! ### asks and their answers -/
inductive Ask where
  | find (key : Th)
  | stretch (low high : Th)
  | count (low high : Th)
  | nth (number : Int)
  | put (key worth : Th)
  | cut (key : Th)
/-- an answer: a thing, or a list -/
inductive An where
  | th (t : Th)
  | lst (l : List An)
def Ask.one (root : Int) : Ask → Pg An
  | .find key => (foundP key 302 301 root).bind fun t => .ret (.th t)
  | .stretch low high => (stretchW root low high).bind fun l => .ret (.lst (l.map fun p => .th (pairT p)))
  | .count low high => (counted root low high).bind fun n => .ret (.th (.num n))
  | .nth number => (nthW root number).bind fun t => .ret (.th t)
  | .put key worth => (putW root key worth).bind fun n => .ret (.th (.num n))
  | .cut key => (cutW root key).bind fun n => .ret (.th (.num n))
/-- several asks, in order -/
def manyP (root : Int) : List Ask → List An → Pg (List An)
  | [], acc => .ret acc
  | a :: as, acc => (a.one root).bind fun x => manyP root as (acc ++ [x])
inductive Qs where
  | one (a : Ask)
  | also (l : List Ask)
def Qs.run (root : Int) : Qs → Pg An
  | .one a => a.one root
  | .also l => (manyP root l []).bind fun xs => .ret (.lst xs)
/-- a paper's things laid, in order -/
def layAll : List Th → Pg Unit
  | [] => .ret ()
  | t :: ts => .lay t fun _ => layAll ts
end Pv
set_option Elab.async false
set_option linter.all false
/-! The plain law, first part: what a run over a view comes to; well-formed trees; no program comes to a bad end over them. -/
namespace Pv
open PySem

abbrev Vw := Int → Option Th
def setV (g : Vw) (n : Int) (t : Th) : Vw := fun m => if m = n then some t else g m
def wv {α : Type} : Pg α → Vw → (α → Vw → Prop) → Prop
  | .ret a, g, Q => Q a g
  | .thing n k, g, Q => ∃ t, g n = some t ∧ wv (k t) g Q
  | .lay t k, g, Q => Ok 3 t ∧ (g (sealOf t) = none ∨ g (sealOf t) = some t → wv (k (sealOf t)) (setV g (sealOf t) t) Q)
  | .bad, _, _ => False
theorem wv_bind_iff {α β : Type} : ∀ (P : Pg α) (f : α → Pg β) (g : Vw) {Q : β → Vw → Prop}, wv (P.bind f) g Q ↔ wv P g (fun a g' => wv (f a) g' Q)
  | .ret a, f, g, _ => Iff.rfl
  | .thing n k, f, g, Q => by
    show (∃ t, g n = some t ∧ wv ((k t).bind f) g Q) ↔ (∃ t, g n = some t ∧ wv (k t) g _)
    exact exists_congr fun t => and_congr_right fun _ => wv_bind_iff (k t) f g
  | .lay t k, f, g, Q => by
    show (Ok 3 t ∧ (_ → wv ((k (sealOf t)).bind f) (setV g (sealOf t) t) Q)) ↔ (Ok 3 t ∧ (_ → wv (k (sealOf t)) (setV g (sealOf t) t) _))
    exact and_congr_right fun _ => imp_congr_right fun _ => wv_bind_iff (k _) f _
  | .bad, _, _, _ => Iff.rfl
theorem wv_bind {α β : Type} {P : Pg α} {f : α → Pg β} {g : Vw} {Q : β → Vw → Prop} (h : wv P g (fun a g' => wv (f a) g' Q)) : wv (P.bind f) g Q := (wv_bind_iff P f g).mpr h
theorem wv_mono {α : Type} : ∀ (P : Pg α) (g : Vw) {Q Q' : α → Vw → Prop}, (∀ a g', Q a g' → Q' a g') → wv P g Q → wv P g Q'
  | .ret a, g, _, _, hq, h => hq a g h
  | .thing n k, g, _, _, hq, ⟨t, e, h⟩ => ⟨t, e, wv_mono (k t) g hq h⟩
  | .lay t k, g, _, _, hq, ⟨h0, h⟩ => ⟨h0, fun z => wv_mono (k _) _ hq (h z)⟩
  | .bad, _, _, _, _, h => h

/-! ### the vaults' steps -/
theorem laid_none {s : Store} {t : Th} (h : s.laid t = none) : Store.get s (sealOf t) = none ∨ Store.get s (sealOf t) = some t := by
  unfold Store.laid at h
  split at h
  · rename_i x e
    split at h
    · rename_i q; exact .inr (by rw [e, q])
    · cases h
  · rename_i e; exact .inl e
theorem laid_some {s : Store} {t x : Th} (h : s.laid t = some x) : Store.get s (sealOf t) = some x ∧ x ≠ t := by
  unfold Store.laid at h
  split at h
  · rename_i y e
    split at h
    · cases h
    · rename_i q
      cases h
      exact ⟨e, q⟩
  · cases h
theorem laid_of {s : Store} {t : Th} (h : Store.get s (sealOf t) = none ∨ Store.get s (sealOf t) = some t) : s.laid t = none := by
  unfold Store.laid
  rcases h with h | h <;> rw [h]
  exact if_pos rfl
/-- the same kind of vault over the same keeper -/
def VS.Kin : VS → VS → Prop
  | .base _, .base _ => True
  | .reader k _ _, .reader k' _ _ => k' = k
  | _, _ => False
theorem VS.Kin.refl (s : VS) : s.Kin s := by cases s <;> simp [VS.Kin]
theorem VS.Kin.trans {a b c : VS} (h : a.Kin b) (h' : b.Kin c) : a.Kin c := by
  cases a <;> cases b <;> cases c <;> simp_all [VS.Kin]
theorem thing_some {s s' : VS} {n : Int} {t : Th} (h : s.thing n = some (t, s')) (g : s.Good) : s.view n = some t ∧ s'.view = s.view ∧ s'.Good ∧ s.Kin s' ∧ Ok 3 t := by
  cases s with
  | base s =>
    unfold VS.thing at h
    simp only at h
    split at h
    · rename_i x e
      cases h
      exact ⟨e, rfl, g, trivial, (Store.Good.get g e).1⟩
    · cases h
  | reader k o m =>
    obtain ⟨g1, g2, g3⟩ := g
    unfold VS.thing at h
    simp only at h
    split at h
    · rename_i x e
      cases h
      exact ⟨by simp [VS.view, e], rfl, ⟨g1, g2, g3⟩, rfl, (Store.Good.get g2 e).1⟩
    · rename_i e
      split at h
      · rename_i x e'
        cases h
        have q := Store.Good.get g1 e'
        refine ⟨by simp [VS.view, e, e'], rfl, ⟨g1, g2, ?_⟩, rfl, q.1⟩
        rw [← q.2]
        exact g3.put q.1
      · cases h
theorem thing_none {s : VS} {n : Int} (h : s.thing n = none) : s.view n = none := by
  cases s with
  | base s =>
    unfold VS.thing at h
    simp only at h
    split at h
    · cases h
    · rename_i e; exact e
  | reader k o m =>
    unfold VS.thing at h
    simp only at h
    split at h
    · cases h
    · rename_i e
      split at h
      · cases h
      · rename_i e'
        simp [VS.view, e, e']
theorem lay_ok {s s' : VS} {t : Th} (h : s.lay t = .ok s') (g : s.Good) (ho : Ok 3 t) : s'.view = setV s.view (sealOf t) t ∧ (s.view (sealOf t) = none ∨ s.view (sealOf t) = some t) ∧ s'.Good ∧ s.Kin s' := by
  cases s with
  | base s =>
    unfold VS.lay at h
    simp only at h
    split at h
    · cases h
    · rename_i e
      cases h
      refine ⟨?_, laid_none e, Store.Good.put g ho, trivial⟩
      funext m
      show Store.get (s.put (sealOf t) t) m = _
      rw [Store.get_put]; rfl
  | reader k o m =>
    obtain ⟨g1, g2, g3⟩ := g
    unfold VS.lay at h
    simp only at h
    split at h
    · cases h
    · rename_i e
      split at h
      · cases h
      · rename_i e'
        cases h
        refine ⟨?_, ?_, ⟨g1, g2.put ho, g3⟩, rfl⟩
        · funext j
          show (Store.get (o.put (sealOf t) t) j).or (Store.get k j) = if j = sealOf t then some t else (Store.get o j).or (Store.get k j)
          rw [Store.get_put]
          by_cases q : j = sealOf t <;> simp [q]
        · show (Store.get o (sealOf t)).or (Store.get k (sealOf t)) = none ∨ (Store.get o (sealOf t)).or (Store.get k (sealOf t)) = some t
          rcases laid_none e' with q | q <;> rw [q]
          · simpa using laid_none e
          · exact .inr rfl
theorem lay_error {s : VS} {t x : Th} (h : s.lay t = .error x) (g : s.Good) (ho : Ok 3 t) : Ex.Sound (.clash x t) := by
  cases s with
  | base s =>
    unfold VS.lay at h
    simp only at h
    split at h
    · rename_i y e
      cases h
      obtain ⟨e1, e2⟩ := laid_some e
      have q := Store.Good.get g e1
      exact ⟨e2, q.2, q.1, ho⟩
    · cases h
  | reader k o m =>
    obtain ⟨g1, g2, g3⟩ := g
    unfold VS.lay at h
    simp only at h
    split at h
    · rename_i y e
      cases h
      obtain ⟨e1, e2⟩ := laid_some e
      have q := Store.Good.get g1 e1
      exact ⟨e2, q.2, q.1, ho⟩
    · split at h
      · rename_i y e
        cases h
        obtain ⟨e1, e2⟩ := laid_some e
        have q := Store.Good.get g2 e1
        exact ⟨e2, q.2, q.1, ho⟩
      · cases h
/-- a sound clash -/
def SClash (e : Ex) : Prop := ∃ x y, e = .clash x y ∧ x ≠ y ∧ sealOf x = sealOf y ∧ Ok 3 x ∧ Ok 3 y
theorem wp_of_wv {α : Type} : ∀ (P : Pg α) (s : VS) {Q : α → Vw → Prop}, s.Good → wv P s.view Q → wp P s (fun a s' => s'.Good ∧ s.Kin s' ∧ Q a s'.view) SClash
  | .ret a, s, _, g, h => ⟨g, VS.Kin.refl s, h⟩
  | .thing n k, s, _, g, ⟨t, e, h⟩ => by
    cases q : s.thing n with
    | none =>
      have := thing_none q
      rw [e] at this; cases this
    | some p =>
      obtain ⟨t', s'⟩ := p
      obtain ⟨h1, h2, h3, h4, _⟩ := thing_some q g
      rw [e] at h1; cases h1
      rw [wp_thing_some q]
      exact wp_mono _ _ (fun a s2 z => ⟨z.1, h4.trans z.2.1, z.2.2⟩) (fun _ z => z) (wp_of_wv (k t) s' h3 (by rw [h2]; exact h))
  | .lay t k, s, _, g, ⟨h0, h⟩ => by
    cases q : s.lay t with
    | ok s' =>
      obtain ⟨h1, h2, h3, h4⟩ := lay_ok q g h0
      rw [wp_lay_ok q]
      exact ⟨h0, wp_mono _ _ (fun a s2 z => ⟨z.1, h4.trans z.2.1, z.2.2⟩) (fun _ z => z) (wp_of_wv (k _) s' h3 (by rw [h1]; exact h h2))⟩
    | error x =>
      rw [wp_lay_error q]
      obtain ⟨a, b, c, d⟩ := lay_error q g h0
      exact ⟨h0, x, t, rfl, a, b, c, d⟩
  | .bad, _, _, _, h => h.elim

/-! ### well-formed trees -/
structure GoodV (g : Vw) : Prop where
  ok : ∀ m t, g m = some t → Ok 3 t ∧ sealOf t = m
def LeV (g g' : Vw) : Prop := ∀ m t, g m = some t → g' m = some t
theorem LeV.refl (g : Vw) : LeV g g := fun _ _ h => h
theorem LeV.trans {a b c : Vw} (h : LeV a b) (h' : LeV b c) : LeV a c := fun m t z => h' m t (h m t z)
theorem LeV.set {g : Vw} {t : Th} (h : g (sealOf t) = none ∨ g (sealOf t) = some t) : LeV g (setV g (sealOf t) t) := fun m x e => by
  unfold setV
  by_cases q : m = sealOf t
  · rw [if_pos q]
    subst q
    rcases h with h | h <;> rw [h] at e
    · cases e
    · exact e
  · rw [if_neg q]; exact e
theorem GoodV.set {g : Vw} (G : GoodV g) {t : Th} (h : Ok 3 t) : GoodV (setV g (sealOf t) t) := ⟨fun m x e => by
  unfold setV at e
  by_cases q : m = sealOf t
  · rw [if_pos q] at e
    cases e
    exact ⟨h, q.symm⟩
  · rw [if_neg q] at e
    exact G.ok m x e⟩
theorem VS.Good.view {s : VS} (g : s.Good) : GoodV s.view := ⟨fun m t e => by
  cases s with
  | base s => exact Store.Good.get g e
  | reader k o n =>
    have e : (Store.get o m).or (Store.get k m) = some t := e
    cases q : Store.get o m with
    | some x =>
      rw [q] at e
      cases e
      exact Store.Good.get g.2.1 q
    | none =>
      rw [q] at e
      exact Store.Good.get g.1 (by simpa using e)⟩
inductive WF (g : Vw) : Int → Nat → Prop
  | nil : WF g 0 0
  | node {r : Int} {n : Nd} {a b : Nat} : r ≠ 0 → g r = some n.th → n.Is → WF g n.left a → WF g n.right b → n.count = ((a + b + 1 : Nat) : Int) → WF g r (a + b + 1)
theorem WF.mono {g g' : Vw} (h : LeV g g') : ∀ {r : Int} {s : Nat}, WF g r s → WF g' r s := by
  intro r s w
  induction w with
  | nil => exact .nil
  | node h0 e i _ _ hc ih1 ih2 => exact .node h0 (h _ _ e) i ih1 ih2 hc
theorem WF.zero {g : Vw} {s : Nat} (w : WF g 0 s) : s = 0 := by
  cases w with
  | nil => rfl
  | node h0 => exact absurd rfl h0
theorem WF.range {g : Vw} (G : GoodV g) {r : Int} {s : Nat} (w : WF g r s) : 0 ≤ r ∧ r ≤ cMOST := by
  cases w with
  | nil => exact ⟨by decide, by decide⟩
  | node h0 e =>
    have q := (G.ok _ _ e).2
    rw [← q]
    have h1 := sealOf_pos (Nd.th ‹_›)
    exact ⟨by omega, sealOf_le _⟩
theorem Ok_node {k w : Th} {l r c : Int} (hk : Ok 2 k) (hw : Ok 2 w) (hl : 0 ≤ l ∧ l ≤ cMOST) (hr : 0 ≤ r ∧ r ≤ cMOST) (hc : 0 ≤ c ∧ c ≤ cMOST) : Ok 3 (node k w l r c) := by
  unfold node
  simp only [Ok, OkAll]
  refine ⟨by omega, by simp, hk, hw, ?_, ?_, ?_, trivial⟩
  all_goals (unfold cMOST at *; unfold cLEAST; omega)
theorem Nd.th_eq (n : Nd) : n.th = node n.key n.worth n.left n.right n.count := rfl
theorem Ok_th {n : Nd} (h : Ok 3 n.th) : Ok 2 n.key ∧ Ok 2 n.worth := by
  unfold Nd.th at h
  simp only [Ok, OkAll] at h
  exact ⟨h.2.2.1, h.2.2.2.1⟩
/-- a node of a well-formed tree -/
structure NdIn (g : Vw) (r : Int) (s : Nat) (n : Nd) (a b : Nat) : Prop where
  at_ : g r = some n.th
  is : n.Is
  l : WF g n.left a
  r : WF g n.right b
  c : n.count = ((a + b + 1 : Nat) : Int)
  s : s = a + b + 1
theorem WF.has {g : Vw} {r : Int} {s : Nat} (w : WF g r s) (h : r ≠ 0) : ∃ n a b, NdIn g r s n a b := by
  cases w with
  | nil => exact absurd rfl h
  | node h0 e i l r hc => exact ⟨_, _, _, e, i, l, r, hc, rfl⟩
theorem NdIn.key {g : Vw} {r : Int} {s a b : Nat} {n : Nd} (G : GoodV g) (x : NdIn g r s n a b) : Ok 2 n.key ∧ Ok 2 n.worth := Ok_th (G.ok _ _ x.at_).1
section
variable {g : Vw} {r c : Int} {s : Nat}
theorem wv_nodeAt {Q : Nd → Vw → Prop} (w : WF g r s) (h : r ≠ 0) (hq : ∀ n a b, NdIn g r s n a b → Q n g) : wv (nodeAt r) g Q := by
  obtain ⟨n, a, b, x⟩ := w.has h
  refine ⟨n.th, x.at_, ?_⟩
  show wv (match asNd n.th with | some n => .ret n | none => .bad) g Q
  rw [asNd_th x.is.okB]
  exact hq n a b x
theorem wv_nodeBeneath {Q : Nd → Vw → Prop} (w : WF g r s) (h : r ≠ 0) (hc : (s : Int) < c) (hq : ∀ n a b, NdIn g r s n a b → Q n g) : wv (nodeBeneath r c) g Q := by
  unfold nodeBeneath
  refine wv_bind (wv_nodeAt w h fun n a b x => ?_)
  have e := x.c
  have e2 := x.s
  rw [if_neg (by omega)]
  exact hq n a b x
theorem wv_sizeP {Q : Int → Vw → Prop} (w : WF g r s) (hq : Q (s : Int) g) : wv (sizeP r) g Q := by
  unfold sizeP
  by_cases h : r = 0
  · rw [if_pos h]
    subst h
    rw [w.zero] at hq
    exact hq
  · rw [if_neg h]
    refine wv_bind (wv_nodeAt w h fun n a b x => ?_)
    have e : n.count = (s : Int) := by rw [x.c, x.s]
    show Q n.count g
    rw [e]; exact hq
theorem wv_sizeBeneath {Q : Int → Vw → Prop} (w : WF g r s) (hc : (s : Int) < c) (hq : Q (s : Int) g) : wv (sizeBeneath r c) g Q := by
  unfold sizeBeneath
  by_cases h : r = 0
  · rw [if_pos h]
    subst h
    rw [w.zero] at hq
    exact hq
  · rw [if_neg h]
    refine wv_bind (wv_nodeBeneath w h hc fun n a b x => ?_)
    have e : n.count = (s : Int) := by rw [x.c, x.s]
    show Q n.count g
    rw [e]; exact hq
end
/-! ### reading asks -/
theorem wv_found (key : Th) {g : Vw} (G : GoodV g) : ∀ (f : Nat) (c r : Int) (s : Nat), WF g r s → (s : Int) < c → s < f → wv (foundP key f c r) g (fun a g' => g' = g ∧ Ok 2 a)
  | 0, _, _, _, _, _, h => absurd h (Nat.not_lt_zero _)
  | f + 1, c, r, s, w, hc, hf => by
    unfold foundP
    by_cases h : r = 0
    · rw [if_pos h]; exact ⟨rfl, by simp [Ok]⟩
    rw [if_neg h]
    refine wv_bind (wv_nodeBeneath w h hc fun n a b x => ?_)
    have e := x.c
    have e2 := x.s
    split
    · exact ⟨rfl, (x.key G).2⟩
    · split
      · exact wv_found key G f n.count n.left a x.l (by omega) (by omega)
      · exact wv_found key G f n.count n.right b x.r (by omega) (by omega)
theorem wv_needCounted {g : Vw} {r : Int} {s a b : Nat} {n : Nd} {Q : Unit → Vw → Prop} (x : NdIn g r s n a b) (hq : Q () g) : wv (needCounted n) g Q := by
  have e := x.c
  unfold needCounted
  refine wv_bind (wv_sizeBeneath x.l (by omega) (wv_bind (wv_sizeBeneath x.r (by omega) ?_)))
  rw [if_neg (by omega)]
  exact hq
def WOk (g : Vw) : Wt → Nat → Prop
  | .tree r c, m => ∃ s, WF g r s ∧ (s : Int) < c ∧ 3 * s + 1 ≤ m
  | .pair k w, m => Ok 2 k ∧ Ok 2 w ∧ 1 ≤ m
def WsOk (g : Vw) : List Wt → Nat → Prop
  | [], _ => True
  | x :: xs, m => ∃ a b, WOk g x a ∧ WsOk g xs b ∧ a + b ≤ m
theorem WsOk.mono {g : Vw} : ∀ {l : List Wt} {m m' : Nat}, m ≤ m' → WsOk g l m → WsOk g l m'
  | [], _, _, _, h => h
  | _ :: _, _, _, h, ⟨a, b, h1, h2, h3⟩ => ⟨a, b, h1, h2, by omega⟩
theorem WsOk.opt {g : Vw} {c : Prop} [Decidable c] {x : Wt} {l : List Wt} {a b : Nat} (h1 : WOk g x a) (h2 : WsOk g l b) : WsOk g ((if c then [x] else []) ++ l) (a + b) := by
  by_cases h : c
  · rw [if_pos h]; exact ⟨a, b, h1, h2, Nat.le_refl _⟩
  · rw [if_neg h]; exact h2.mono (by omega)
theorem wv_stretch (low high : Th) {g : Vw} (G : GoodV g) : ∀ (f : Nat) (ws : List Wt) (acc : List (Th × Th)) (m : Nat), WsOk g ws m → m < f → (∀ p ∈ acc, Ok 2 p.1 ∧ Ok 2 p.2) →
    wv (stretchP low high f ws acc) g (fun a g' => g' = g ∧ ∀ p ∈ a, Ok 2 p.1 ∧ Ok 2 p.2)
  | 0, _, _, _, _, h, _ => absurd h (Nat.not_lt_zero _)
  | f + 1, [], acc, m, _, _, ha => ⟨rfl, ha⟩
  | f + 1, .pair k w :: ws, acc, m, ⟨a, b, h1, h2, h3⟩, hf, ha => by
    have h4 : 1 ≤ a := h1.2.2
    refine wv_stretch low high G f ws _ b h2 (by omega) fun p hp => ?_
    rcases List.mem_append.mp hp with hp | hp
    · exact ha p hp
    · simp only [List.mem_singleton] at hp
      subst hp
      exact ⟨h1.1, h1.2.1⟩
  | f + 1, .tree r c :: ws, acc, m, ⟨a, b, ⟨s, w, hc, hs⟩, h2, h3⟩, hf, ha => by
    show wv (if r = 0 then _ else _) _ _
    by_cases h : r = 0
    · rw [if_pos h]
      exact wv_stretch low high G f ws acc b h2 (by omega) ha
    rw [if_neg h]
    refine wv_bind (wv_nodeBeneath w h hc fun n p q x => ?_)
    have e := x.c
    have e2 := x.s
    have fin : wv (stretchP low high f ((if goesLeft low n.key = true then [.tree n.left n.count] else []) ++ ((if isWithin low high n.key = true then [.pair n.key n.worth] else []) ++
        ((if goesRight high n.key = true then [.tree n.right n.count] else []) ++ ws))) acc) g (fun a g' => g' = g ∧ ∀ p ∈ a, Ok 2 p.1 ∧ Ok 2 p.2) := by
      refine wv_stretch low high G f _ acc ((3 * p + 1) + (1 + ((3 * q + 1) + b))) (WsOk.opt ⟨p, x.l, by omega, Nat.le_refl _⟩ (WsOk.opt ⟨(x.key G).1, (x.key G).2, Nat.le_refl _⟩ (WsOk.opt ⟨q, x.r, by omega, Nat.le_refl _⟩ h2))) (by omega) ha
    refine wv_bind ?_
    split
    · exact wv_needCounted x fin
    · exact fin
theorem wv_stretchW (low high : Th) {g : Vw} (G : GoodV g) {r : Int} {s : Nat} (w : WF g r s) (hs : s ≤ 300) : wv (stretchW r low high) g (fun a g' => g' = g ∧ ∀ p ∈ a, Ok 2 p.1 ∧ Ok 2 p.2) := by
  unfold stretchW
  split
  · exact ⟨rfl, fun p hp => by cases hp⟩
  · exact wv_stretch low high G 1000 _ _ (3 * s + 1) ⟨3 * s + 1, 0, ⟨s, w, by omega, Nat.le_refl _⟩, trivial, Nat.le_refl _⟩ (by omega) fun p hp => by cases hp
theorem wv_aheadOfP (key : Th) {g : Vw} : ∀ (f : Nat) (c r many : Int) (s : Nat), WF g r s → (s : Int) < c → s < f → wv (aheadOfP key f c r many) g (fun _ g' => g' = g)
  | 0, _, _, _, _, _, _, h => absurd h (Nat.not_lt_zero _)
  | f + 1, c, r, many, s, w, hc, hf => by
    unfold aheadOfP
    by_cases h : r = 0
    · rw [if_pos h]; rfl
    rw [if_neg h]
    refine wv_bind (wv_nodeBeneath w h hc fun n a b x => ?_)
    have e := x.c
    have e2 := x.s
    split
    · exact wv_bind (wv_sizeBeneath x.l (by omega) rfl)
    · split
      · exact wv_bind (wv_sizeBeneath x.r (by omega) (wv_aheadOfP key f n.count n.right _ b x.r (by omega) (by omega)))
      · exact wv_aheadOfP key f n.count n.left _ a x.l (by omega) (by omega)
theorem wv_counted (low high : Th) {g : Vw} {r : Int} {s : Nat} (w : WF g r s) (hs : s ≤ 300) : wv (counted r low high) g (fun _ g' => g' = g) := by
  unfold counted
  split
  · rfl
  · refine wv_bind ?_
    have fin : ∀ a : Int, wv (if high = .none then (sizeP r).bind fun b => .ret (b - a) else (aheadOf r high).bind fun b => .ret (b - a)) g (fun _ g' => g' = g) := fun a => by
      split
      · exact wv_bind (wv_sizeP w rfl)
      · exact wv_bind (wv_mono _ _ (fun _ g' e => e) (wv_aheadOfP high 302 301 r 0 s w (by omega) (by omega)))
    split
    · refine wv_mono _ _ (fun a g' e => ?_) (wv_aheadOfP low 302 301 r 0 s w (by omega) (by omega))
      rw [e]; exact fin a
    · exact fin 0
theorem wv_nthP {g : Vw} (G : GoodV g) : ∀ (f : Nat) (c r k : Int) (s : Nat), WF g r s → (s : Int) < c → s < f → wv (nthP f c r k) g (fun a g' => g' = g ∧ Ok 3 a)
  | 0, _, _, _, _, _, _, h => absurd h (Nat.not_lt_zero _)
  | f + 1, c, r, k, s, w, hc, hf => by
    unfold nthP
    by_cases h : r = 0
    · rw [if_pos h]; exact ⟨rfl, by simp [Ok]⟩
    rw [if_neg h]
    refine wv_bind (wv_nodeBeneath w h hc fun n a b x => ?_)
    have e := x.c
    have e2 := x.s
    refine wv_bind (wv_sizeBeneath x.l (by omega) ?_)
    split
    · refine ⟨rfl, ?_⟩
      simp only [pairT, Ok, OkAll]
      exact ⟨by omega, by simp, (x.key G).1, (x.key G).2, trivial⟩
    · split
      · exact wv_nthP G f n.count n.right _ b x.r (by omega) (by omega)
      · exact wv_nthP G f n.count n.left _ a x.l (by omega) (by omega)
theorem wv_nthW {g : Vw} (G : GoodV g) {r : Int} {s : Nat} (w : WF g r s) (hs : s ≤ 300) (k : Int) : wv (nthW r k) g (fun a g' => g' = g ∧ Ok 3 a) := by
  unfold nthW
  split
  · exact ⟨rfl, by simp [Ok]⟩
  · exact wv_nthP G 302 301 r k s w (by omega) (by omega)
/-! ### laying -/
/-- a node is laid over two well-formed trees -/
theorem wv_layNode {β : Type} {g : Vw} (G : GoodV g) {k w : Th} {l r : Int} {a b : Nat} {c : Int} {K : Int → Pg β} {Q : β → Vw → Prop} (hk : Ok 2 k) (hw : Ok 2 w) (k0 : k ≠ .none) (w0 : w ≠ .none) (hl : WF g l a) (hr : WF g r b) (hc : c = ((a + b + 1 : Nat) : Int)) (hs : a + b + 1 ≤ 300)
    (h : ∀ x g', LeV g g' → GoodV g' → WF g' x (a + b + 1) → wv (K x) g' Q) : wv (.lay (node k w l r c) K) g Q := by
  have z1 := hl.range G
  have z2 := hr.range G
  have ok : Ok 3 (node k w l r c) := Ok_node hk hw z1 z2 ⟨by omega, by unfold cMOST; omega⟩
  refine ⟨ok, fun z => ?_⟩
  have le := LeV.set z
  refine h _ _ le (G.set ok) (WF.node (n := ⟨k, w, l, r, c⟩) ?_ ?_ ⟨k0, w0, z1.1, z2.1, by show 1 ≤ c; omega, by show c ≤ 300; omega⟩ (hl.mono le) (hr.mono le) hc)
  · have := sealOf_pos (node k w l r c); omega
  · unfold setV; rw [if_pos rfl]; rfl
theorem wv_rebuilt_snoc {key : Th} {g : Vw} {d : Int} {S : Int → Vw → Prop} {way : List Nd} {r : Int} {s a b : Nat} {n : Nd} (G : GoodV g) (x : NdIn g r s n a b) (hs : (s : Int) + d ≤ 300)
    (K : ∀ g1 y (z : Nat), LeV g g1 → GoodV g1 → WF g1 y z → (z : Int) = (s : Int) + d → wv (rebuilt key d way.reverse y) g1 S)
    (g1 : Vw) (y : Int) (z : Nat) (le : LeV g g1) (G1 : GoodV g1) (w : WF g1 y z) (hz : (z : Int) = ((if ahead key n.key = true then a else b : Nat) : Int) + d) : wv (rebuilt key d (way ++ [n]).reverse y) g1 S := by
  rw [List.reverse_append]
  show wv (rebuilt key d (n :: way.reverse) y) g1 S
  have e := x.c
  have e2 := x.s
  have ky := x.key G
  unfold rebuilt
  by_cases q : ahead key n.key = true
  · rw [if_pos q] at hz ⊢
    exact wv_layNode G1 ky.1 ky.2 x.is.k0 x.is.w0 w (x.r.mono le) (by omega) (by omega) fun y' g2 le2 G2 w2 => K g2 y' _ (le.trans le2) G2 w2 (by omega)
  · rw [if_neg q] at hz ⊢
    exact wv_layNode G1 ky.1 ky.2 x.is.k0 x.is.w0 (x.l.mono le) w (by omega) (by omega) fun y' g2 le2 G2 w2 => K g2 y' _ (le.trans le2) G2 w2 (by omega)
theorem wv_part (key : Th) {g : Vw} (G : GoodV g) {Q : Int × Int → Vw → Prop} : ∀ (f : Nat) (c r : Int) (s : Nat) (way : List Nd), WF g r s → (s : Int) < c → s < f → s ≤ 300 →
    (∀ l rr (a b : Nat) g1, LeV g g1 → GoodV g1 → WF g1 l a → WF g1 rr b → a + b = s → wv (partUp key way.reverse l rr a b s) g1 Q) →
    wv ((partWay key f c r way).bind fun w => partUp key w.reverse 0 0 0 0 0) g Q
  | 0, _, _, _, _, _, _, h, _, _ => absurd h (Nat.not_lt_zero _)
  | f + 1, c, r, s, way, w, hc, hf, h3, K => by
    unfold partWay
    by_cases h : r = 0
    · rw [if_pos h]
      subst h
      have e := w.zero
      subst e
      exact K 0 0 0 0 g (LeV.refl g) G .nil .nil rfl
    rw [if_neg h]
    refine wv_bind (wv_bind (wv_nodeBeneath w h hc fun n a b x => ?_))
    have e := x.c
    have e2 := x.s
    have ky := x.key G
    refine (wv_bind_iff _ _ _).mp ?_
    by_cases q : ahead n.key key = true
    · rw [if_pos q]
      refine wv_part key G f n.count n.right b (way ++ [n]) x.r (by omega) (by omega) (by omega) fun l rr p t g1 le G1 wl wr hpt => ?_
      rw [List.reverse_append]
      show wv (partUp key (n :: way.reverse) l rr p t b) g1 Q
      unfold partUp
      rw [if_pos q]
      refine wv_layNode G1 ky.1 ky.2 x.is.k0 x.is.w0 (x.l.mono le) wl (by omega) (by omega) fun y g2 le2 G2 w2 => ?_
      have := K y rr _ t g2 (le.trans le2) G2 w2 (wr.mono le2) (by omega)
      rw [show (p : Int) + (n.count - (b : Int)) = ((a + p + 1 : Nat) : Int) by omega, show n.count = (s : Int) by omega]
      exact this
    · rw [if_neg q]
      refine wv_part key G f n.count n.left a (way ++ [n]) x.l (by omega) (by omega) (by omega) fun l rr p t g1 le G1 wl wr hpt => ?_
      rw [List.reverse_append]
      show wv (partUp key (n :: way.reverse) l rr p t a) g1 Q
      unfold partUp
      rw [if_neg q]
      refine wv_layNode G1 ky.1 ky.2 x.is.k0 x.is.w0 wr (x.r.mono le) (by omega) (by omega) fun y g2 le2 G2 w2 => ?_
      have := K l y p _ g2 (le.trans le2) G2 (wl.mono le2) w2 (by omega)
      rw [show (t : Int) + (n.count - (a : Int)) = ((t + b + 1 : Nat) : Int) by omega, show n.count = (s : Int) by omega]
      exact this
theorem wv_partP (key : Th) {g : Vw} (G : GoodV g) {r : Int} {s : Nat} (w : WF g r s) (hs : s ≤ 300) : wv (partP r key) g (fun lr g' => LeV g g' ∧ GoodV g' ∧ ∃ a b, WF g' lr.1 a ∧ WF g' lr.2 b ∧ a + b = s) :=
  wv_part key G 302 301 r s [] w (by omega) (by omega) hs fun l rr a b g1 le G1 wl wr hab => ⟨le, G1, a, b, wl, wr, hab⟩
theorem wv_join {g : Vw} (G : GoodV g) {Q : Int → Vw → Prop} : ∀ (f : Nat) (one other l r : Int) (s t : Nat) (way : List (Nd × Bool × Int)), WF g l s → WF g r t → (s : Int) < one → (t : Int) < other → s + t < f → s + t ≤ 300 →
    (∀ y g1, LeV g g1 → GoodV g1 → WF g1 y (s + t) → wv (joinUp way.reverse y) g1 Q) →
    wv ((joinWay f one other l r way).bind fun z => joinUp z.2.reverse z.1) g Q
  | 0, _, _, _, _, _, _, _, _, _, _, _, h, _, _ => absurd h (Nat.not_lt_zero _)
  | f + 1, one, other, l, r, s, t, way, wl, wr, h1, h2, hf, h3, K => by
    unfold joinWay
    by_cases hl : l = 0
    · rw [if_pos hl]
      subst hl
      have e := wl.zero
      subst e
      exact K r g (LeV.refl g) G (by rw [Nat.zero_add]; exact wr)
    rw [if_neg hl]
    by_cases hr : r = 0
    · rw [if_pos hr]
      subst hr
      have e := wr.zero
      subst e
      exact K l g (LeV.refl g) G wl
    rw [if_neg hr]
    refine wv_bind (wv_bind (wv_nodeBeneath wl hl h1 fun n a b x => wv_bind (wv_nodeBeneath wr hr h2 fun m p q y => ?_)))
    have e1 := x.c
    have e2 := x.s
    have e3 := y.c
    have e4 := y.s
    have kx := x.key G
    have kk := y.key G
    refine (wv_bind_iff _ _ _).mp ?_
    by_cases z : above n.key m.key = true
    · rw [if_pos z]
      refine wv_join G f n.count other n.right r b t _ x.r wr (by omega) h2 (by omega) (by omega) fun v g1 le G1 w => ?_
      rw [List.reverse_append]
      show wv (joinUp ((n, true, n.count + m.count) :: way.reverse) v) g1 Q
      refine wv_layNode G1 kx.1 kx.2 x.is.k0 x.is.w0 (x.l.mono le) w (by omega) (by omega) fun u g2 le2 G2 w2 => K u g2 (le.trans le2) G2 ?_
      rw [show s + t = a + (b + t) + 1 by omega]
      exact w2
    · rw [if_neg z]
      refine wv_join G f one m.count l m.left s p _ wl y.l h1 (by omega) (by omega) (by omega) fun v g1 le G1 w => ?_
      rw [List.reverse_append]
      show wv (joinUp ((m, false, n.count + m.count) :: way.reverse) v) g1 Q
      refine wv_layNode G1 kk.1 kk.2 y.is.k0 y.is.w0 w (y.r.mono le) (by omega) (by omega) fun u g2 le2 G2 w2 => K u g2 (le.trans le2) G2 ?_
      rw [show s + t = (s + p) + q + 1 by omega]
      exact w2
theorem wv_joined {g : Vw} (G : GoodV g) {l r most : Int} {s t : Nat} (wl : WF g l s) (wr : WF g r t) (h1 : (s : Int) < most) (h2 : (t : Int) < most) (h3 : s + t ≤ 300) : wv (joined l r most) g (fun y g' => LeV g g' ∧ GoodV g' ∧ WF g' y (s + t)) :=
  wv_join G 700 most most l r s t [] wl wr h1 h2 (by omega) h3 fun y g1 le G1 w => ⟨le, G1, w⟩
theorem wv_put (key worth : Th) (hk : Ok 2 key) (hw : Ok 2 worth) (k0 : key ≠ .none) (w0 : worth ≠ .none) {g : Vw} (G : GoodV g) {Q : Int → Vw → Prop} : ∀ (f : Nat) (c r : Int) (s : Nat) (way : List Nd), WF g r s → (s : Int) < c → s < f → s < 300 →
    (∀ (d : Int) g1 y (z : Nat), 0 ≤ d → d ≤ 1 → LeV g g1 → GoodV g1 → WF g1 y z → (z : Int) = (s : Int) + d → wv (rebuilt key d way.reverse y) g1 Q) →
    wv (putP key worth f c r way) g Q
  | 0, _, _, _, _, _, _, h, _, _ => absurd h (Nat.not_lt_zero _)
  | f + 1, c, r, s, way, w, hc, hf, h3, K => by
    unfold putP
    by_cases h : r = 0
    · rw [if_pos h]
      subst h
      have e := w.zero
      subst e
      exact wv_layNode (a := 0) (b := 0) G hk hw k0 w0 .nil .nil rfl (by omega) fun y g1 le G1 w1 => K 1 g1 y _ (by omega) (by omega) le G1 w1 rfl
    rw [if_neg h]
    refine wv_bind (wv_nodeBeneath w h hc fun n a b x => ?_)
    have e := x.c
    have e2 := x.s
    have ky := x.key G
    split
    · exact wv_layNode G hk hw k0 w0 x.l x.r e (by omega) fun y g1 le G1 w1 => K 0 g1 y _ (by omega) (by omega) le G1 w1 (by omega)
    · split
      · refine wv_bind (wv_mono _ _ (fun lr g1 z => ?_) (wv_partP key G w (by omega)))
        obtain ⟨le, G1, p, q, wp, wq, hpq⟩ := z
        exact wv_layNode G1 hk hw k0 w0 wp wq (by omega) (by omega) fun y g2 le2 G2 w2 => K 1 g2 y _ (by omega) (by omega) (le.trans le2) G2 w2 (by omega)
      · by_cases q : ahead key n.key = true
        · rw [if_pos q]
          refine wv_put key worth hk hw k0 w0 G f n.count n.left a (way ++ [n]) x.l (by omega) (by omega) (by omega) fun d g1 y z d0 d1 le G1 w1 hz => ?_
          exact wv_rebuilt_snoc G x (by omega) (fun g1 y z => K d g1 y z d0 d1) g1 y z le G1 w1 (by rw [if_pos q]; exact hz)
        · rw [if_neg q]
          refine wv_put key worth hk hw k0 w0 G f n.count n.right b (way ++ [n]) x.r (by omega) (by omega) (by omega) fun d g1 y z d0 d1 le G1 w1 hz => ?_
          exact wv_rebuilt_snoc G x (by omega) (fun g1 y z => K d g1 y z d0 d1) g1 y z le G1 w1 (by rw [if_neg q]; exact hz)
theorem wv_putW {key worth : Th} (hk : Ok 2 key) (hw : Ok 2 worth) (k0 : key ≠ .none) (w0 : worth ≠ .none) {g : Vw} (G : GoodV g) {r : Int} {s : Nat} (w : WF g r s) (hs : s < 300) : wv (putW r key worth) g (fun y g' => LeV g g' ∧ GoodV g' ∧ ∃ z, WF g' y z ∧ z ≤ s + 1) :=
  wv_put key worth hk hw k0 w0 G 302 301 r s [] w (by omega) (by omega) hs fun d g1 y z d0 d1 le G1 w1 hz => ⟨le, G1, z, w1, by omega⟩
theorem wv_cut (key : Th) (whole : Int) {g : Vw} (G : GoodV g) {Q : Int → Vw → Prop} (hQ : Q whole g) : ∀ (f : Nat) (c r : Int) (s : Nat) (way : List Nd), WF g r s → (s : Int) < c → s < f → s ≤ 300 →
    (∀ g1 y (z : Nat), LeV g g1 → GoodV g1 → WF g1 y z → (z : Int) = (s : Int) + -1 → wv (rebuilt key (-1) way.reverse y) g1 Q) →
    wv (cutP key whole f c r way) g Q
  | 0, _, _, _, _, _, _, h, _, _ => absurd h (Nat.not_lt_zero _)
  | f + 1, c, r, s, way, w, hc, hf, h3, K => by
    unfold cutP
    by_cases h : r = 0
    · rw [if_pos h]
      exact hQ
    rw [if_neg h]
    refine wv_bind (wv_nodeBeneath w h hc fun n a b x => ?_)
    have e := x.c
    have e2 := x.s
    split
    · refine wv_bind (wv_mono _ _ (fun y g1 z => ?_) (wv_joined G x.l x.r (by omega) (by omega) (by omega)))
      exact K g1 y _ z.1 z.2.1 z.2.2 (by omega)
    · by_cases q : ahead key n.key = true
      · rw [if_pos q]
        refine wv_cut key whole G hQ f n.count n.left a (way ++ [n]) x.l (by omega) (by omega) (by omega) fun g1 y z le G1 w1 hz => ?_
        exact wv_rebuilt_snoc G x (by omega) K g1 y z le G1 w1 (by rw [if_pos q]; exact hz)
      · rw [if_neg q]
        refine wv_cut key whole G hQ f n.count n.right b (way ++ [n]) x.r (by omega) (by omega) (by omega) fun g1 y z le G1 w1 hz => ?_
        exact wv_rebuilt_snoc G x (by omega) K g1 y z le G1 w1 (by rw [if_neg q]; exact hz)
theorem wv_cutW (key : Th) {g : Vw} (G : GoodV g) {r : Int} {s : Nat} (w : WF g r s) (hs : s ≤ 300) : wv (cutW r key) g (fun y g' => LeV g g' ∧ GoodV g' ∧ ∃ z, WF g' y z ∧ z ≤ s) :=
  wv_cut key r G ⟨LeV.refl g, G, s, w, Nat.le_refl _⟩ 302 301 r s [] w (by omega) (by omega) hs fun g1 y z le G1 w1 hz => ⟨le, G1, z, w1, by omega⟩
/-! ### asks -/
mutual
/-- no deeper than so much -/
def ADepth : Nat → An → Prop
  | n, .th t => t.depth ≤ n
  | n, .lst l => 0 < n ∧ ADepths (n - 1) l
def ADepths : Nat → List An → Prop
  | _, [] => True
  | n, a :: as => ADepth n a ∧ ADepths n as
end
theorem ADepths_iff {n : Nat} : ∀ {l : List An}, ADepths n l ↔ ∀ a ∈ l, ADepth n a
  | [] => by simp [ADepths]
  | a :: as => by simp [ADepths, ADepths_iff (l := as)]
mutual
theorem ADepth.mono {n m : Nat} (h : n ≤ m) : ∀ {t : An}, ADepth n t → ADepth m t
  | .th t, x => Nat.le_trans x h
  | .lst l, x => by
    simp only [ADepth] at x ⊢
    exact ⟨by omega, ADepths.mono (by omega) x.2⟩
theorem ADepths.mono {n m : Nat} (h : n ≤ m) : ∀ {l : List An}, ADepths n l → ADepths m l
  | [], _ => trivial
  | a :: as, x => ⟨ADepth.mono h x.1, ADepths.mono h x.2⟩
end
def Ask.Ok : Ask → Prop
  | .put key worth => Pv.Ok 2 key ∧ Pv.Ok 2 worth ∧ key ≠ .none ∧ worth ≠ .none
  | .find key => Pv.Ok 2 key
  | .stretch low high => Pv.Ok 2 low ∧ Pv.Ok 2 high
  | .count low high => Pv.Ok 2 low ∧ Pv.Ok 2 high
  | .nth _ => True
  | .cut key => Pv.Ok 2 key
theorem wv_one {a : Ask} (h : a.Ok) {g : Vw} (G : GoodV g) {r : Int} {s : Nat} (w : WF g r s) (hs : s < 300) : wv (a.one r) g (fun x g' => LeV g g' ∧ GoodV g' ∧ ADepth 4 x) := by
  cases a with
  | find key => exact wv_bind (wv_mono _ _ (fun a g' z => by rw [z.1]; exact ⟨LeV.refl g, G, Nat.le_trans z.2.depth (by omega)⟩) (wv_found key G 302 301 r s w (by omega) (by omega)))
  | stretch low high =>
    refine wv_bind (wv_mono _ _ (fun a g' z => ?_) (wv_stretchW low high G w (by omega)))
    rw [z.1]
    refine ⟨LeV.refl g, G, by omega, ADepths_iff.mpr fun x hx => ?_⟩
    obtain ⟨p, hp, rfl⟩ := List.mem_map.mp hx
    have h1 := (z.2 p hp).1.depth
    have h2 := (z.2 p hp).2.depth
    show (pairT p).depth ≤ 3
    simp only [pairT, NestedKey.depth, NestedKey.depthAll]
    omega
  | count low high => exact wv_bind (wv_mono _ _ (fun a g' z => by rw [z]; exact ⟨LeV.refl g, G, Nat.zero_le _⟩) (wv_counted low high w (by omega)))
  | nth k => exact wv_bind (wv_mono _ _ (fun a g' z => by rw [z.1]; exact ⟨LeV.refl g, G, Nat.le_trans z.2.depth (by omega)⟩) (wv_nthW G w (by omega) k))
  | put key worth => exact wv_bind (wv_mono _ _ (fun a g' z => ⟨z.1, z.2.1, Nat.zero_le _⟩) (wv_putW h.1 h.2.1 h.2.2.1 h.2.2.2 G w hs))
  | cut key => exact wv_bind (wv_mono _ _ (fun a g' z => ⟨z.1, z.2.1, Nat.zero_le _⟩) (wv_cutW key G w (by omega)))
theorem wv_many {r : Int} {s : Nat} (hs : s < 300) : ∀ (l : List Ask) (acc : List An) (g : Vw), (∀ a ∈ l, a.Ok) → GoodV g → WF g r s → ADepths 4 acc → wv (manyP r l acc) g (fun x g' => LeV g g' ∧ GoodV g' ∧ ADepths 4 x)
  | [], acc, g, _, G, _, h => ⟨LeV.refl g, G, h⟩
  | a :: as, acc, g, hl, G, w, h => by
    refine wv_bind (wv_mono _ _ (fun x g' z => ?_) (wv_one (hl a List.mem_cons_self) G w hs))
    refine wv_mono _ _ (fun y g2 z2 => ⟨z.1.trans z2.1, z2.2⟩) (wv_many hs as (acc ++ [x]) g' (fun b hb => hl b (List.mem_cons_of_mem _ hb)) z.2.1 (w.mono z.1) ?_)
    refine ADepths_iff.mpr fun b hb => ?_
    rcases List.mem_append.mp hb with hb | hb
    · exact ADepths_iff.mp h b hb
    · simp only [List.mem_singleton] at hb
      subst hb
      exact z.2.2
def Qs.Ok : Qs → Prop
  | .one a => a.Ok
  | .also l => ∀ a ∈ l, a.Ok
theorem wv_qs {q : Qs} (h : q.Ok) {g : Vw} (G : GoodV g) {r : Int} {s : Nat} (w : WF g r s) (hs : s < 300) : wv (q.run r) g (fun x g' => LeV g g' ∧ GoodV g' ∧ ADepth 5 x) := by
  cases q with
  | one a => exact wv_mono _ _ (fun x g' z => ⟨z.1, z.2.1, ADepth.mono (by omega) z.2.2⟩) (wv_one h G w hs)
  | also l => exact wv_bind (wv_mono _ _ (fun x g' z => ⟨z.1, z.2.1, by omega, z.2.2⟩) (wv_many hs l [] g h G w trivial))
end Pv
set_option Elab.async false
set_option linter.all false
/-! The plain law, second part: replays over a paper, what lacks, papers laid, sorted things. -/
namespace Pv
open PySem

/-- a run that came through -/
inductive Runs {α : Type} : Pg α → VS → α → VS → Prop
  | ret {a : α} {s : VS} : Runs (.ret a) s a s
  | thing {n : Int} {k : Th → Pg α} {s s1 s' : VS} {t : Th} {a : α} : s.thing n = some (t, s1) → Runs (k t) s1 a s' → Runs (.thing n k) s a s'
  | lay {t : Th} {k : Int → Pg α} {s s1 s' : VS} {a : α} : Ok 3 t → s.lay t = .ok s1 → Runs (k (sealOf t)) s1 a s' → Runs (.lay t k) s a s'
theorem wp_runs {α : Type} : ∀ (P : Pg α) (s : VS) {Q : α → VS → Prop} {E : Ex → Prop}, wp P s Q E → wp P s (fun a s' => Runs P s a s' ∧ Q a s') E
  | .ret a, s, _, _, h => ⟨.ret, h⟩
  | .thing n k, s, _, _, h => by
    cases e : s.thing n with
    | none => rw [wp_thing_none e] at h ⊢; exact h
    | some p =>
      rw [wp_thing_some (t := p.1) (s' := p.2) e] at h ⊢
      exact wp_mono _ _ (fun a s' z => ⟨.thing e z.1, z.2⟩) (fun _ z => z) (wp_runs (k p.1) p.2 h)
  | .lay t k, s, _, _, h => by
    cases e : s.lay t with
    | error x => rw [wp_lay_error e] at h ⊢; exact h
    | ok s1 =>
      rw [wp_lay_ok e] at h ⊢
      exact ⟨h.1, wp_mono _ _ (fun a s' z => ⟨.lay h.1 e z.1, z.2⟩) (fun _ z => z) (wp_runs (k _) s1 h.2)⟩
  | .bad, _, _, _, h => h

def SubS (a b : Store) : Prop := ∀ n t, Store.get a n = some t → Store.get b n = some t
theorem SubS.refl (a : Store) : SubS a a := fun _ _ h => h
theorem SubS.nil (a : Store) : SubS [] a := fun _ _ h => by cases h
theorem SubS.trans {a b c : Store} (h : SubS a b) (h' : SubS b c) : SubS a c := fun n t z => h' n t (h n t z)
theorem SubS.put {a b : Store} {n : Int} {t : Th} (h : SubS a b) (e : Store.get b n = some t) : SubS (a.put n t) b := fun m x z => by
  rw [Store.get_put] at z
  by_cases q : m = n
  · rw [if_pos q] at z; cases z; rw [q]; exact e
  · rw [if_neg q] at z; exact h m x z
theorem SubS.puts {a b : Store} {n : Int} {t : Th} (h : SubS a b) : SubS (a.put n t) (b.put n t) := fun m x z => by
  rw [Store.get_put] at z ⊢
  by_cases q : m = n
  · rw [if_pos q] at z ⊢; exact z
  · rw [if_neg q] at z ⊢; exact h m x z
theorem SubS.self_put {a : Store} {n : Int} {t : Th} (h : Store.get a n = none ∨ Store.get a n = some t) : SubS a (a.put n t) := fun m x z => by
  rw [Store.get_put]
  by_cases q : m = n
  · rw [if_pos q]
    subst q
    rcases h with h | h <;> rw [h] at z
    · cases z
    · exact z
  · rw [if_neg q]; exact z

/-- a step of a reader, by its stores -/
theorem rd_thing {k o m : Store} {n : Int} {t : Th} {s1 : VS} (h : (VS.reader k o m).thing n = some (t, s1)) :
    (Store.get o n = some t ∧ s1 = .reader k o m) ∨ (Store.get o n = none ∧ Store.get k n = some t ∧ s1 = .reader k o (m.put n t)) := by
  unfold VS.thing at h
  simp only at h
  split at h
  · rename_i x e; cases h; exact .inl ⟨e, rfl⟩
  · rename_i e
    split at h
    · rename_i x e'; cases h; exact .inr ⟨e, e', rfl⟩
    · cases h
theorem rd_lay {k o m : Store} {t : Th} {s1 : VS} (h : (VS.reader k o m).lay t = .ok s1) : k.laid t = none ∧ o.laid t = none ∧ s1 = .reader k (o.put (sealOf t) t) m := by
  unfold VS.lay at h
  simp only at h
  split at h
  · cases h
  · rename_i e
    split at h
    · cases h
    · rename_i e'; cases h; exact ⟨e, e', rfl⟩
/-- what is noted are things of the keeper's; nothing is forgotten -/
theorem Runs.noted {α : Type} {P : Pg α} {s s' : VS} {a : α} (r : Runs P s a s') : ∀ {k o m : Store}, s = .reader k o m → SubS m k → ∃ o' m', s' = .reader k o' m' ∧ SubS m m' ∧ SubS m' k ∧
    (∀ n t, Store.get o n = some t → Store.get m n = none → Store.get m' n = none) := by
  induction r with
  | ret => intro k o m e h; exact ⟨o, m, e, SubS.refl _, h, fun _ _ _ z => z⟩
  | @thing n0 kk0 s0 s1 s' t0 a e1 r0 ih =>
    intro k o m e h
    subst e
    rcases rd_thing e1 with ⟨e2, rfl⟩ | ⟨e2, e3, rfl⟩
    · exact ih rfl h
    · obtain ⟨o', m', q, h1, h2, h3⟩ := ih rfl (h.put e3)
      refine ⟨o', m', q, SubS.trans (SubS.self_put ?_) h1, h2, fun n t z1 z2 => h3 n t z1 ?_⟩
      · cases q2 : Store.get m n0 with
        | none => exact .inl rfl
        | some x =>
          have := h n0 x q2
          rw [e3] at this
          exact .inr this.symm
      · rw [Store.get_put]
        by_cases q2 : n = n0
        · subst q2; rw [e2] at z1; cases z1
        · rw [if_neg q2]; exact z2
  | lay _ e1 _ ih =>
    intro k o m e h
    subst e
    obtain ⟨l1, l2, rfl⟩ := rd_lay e1
    obtain ⟨o', m', q, h1, h2, h3⟩ := ih rfl h
    refine ⟨o', m', q, h1, h2, fun n t z1 z2 => ?_⟩
    have := SubS.self_put (laid_none l2) n t z1
    exact h3 n t this z2
/-- an own thing, not noted as yet, never is -/
theorem replay {α : Type} {P : Pg α} {s s' : VS} {a : α} (r : Runs P s a s') : ∀ {k o m o' m' w : Store}, s = .reader k o m → s' = .reader k o' m' → SubS m k → SubS o w → SubS m' w → w.Good →
    wp P (.base w) (fun a' s2 => a' = a ∧ ∃ w', s2 = .base w' ∧ w'.Good) SClash := by
  induction r with
  | ret => intro k o m o' m' w _ _ _ _ _ g; exact ⟨rfl, w, rfl, g⟩
  | @thing n kk s s1 s' t a e1 r1 ih =>
    intro k o m o' m' w e e' h ho hm g
    subst e
    have done : ∀ (e : Store.get w n = some t), (∀ {o m : Store}, s1 = .reader k o m → SubS m k → SubS o w → wp (kk t) (.base w) (fun a' s2 => a' = a ∧ ∃ w', s2 = .base w' ∧ w'.Good) SClash) → SubS o w → wp (.thing n kk) (.base w) (fun a' s2 => a' = a ∧ ∃ w', s2 = .base w' ∧ w'.Good) SClash := fun e q ho => by
      have q1 : (VS.base w).thing n = some (t, .base w) := by unfold VS.thing; simp [e]
      rw [wp_thing_some q1]
      rcases rd_thing e1 with ⟨e2, e3⟩ | ⟨e2, e3, e4⟩
      · exact q e3 h ho
      · exact q e4 (h.put e3) ho
    refine done ?_ (fun e3 h ho => ih e3 e' h ho hm g) ho
    rcases rd_thing e1 with ⟨e2, e3⟩ | ⟨e2, e3, e4⟩
    · exact ho n t e2
    · obtain ⟨o2, m2, q, h1, h2, h3⟩ := r1.noted e4 (h.put e3)
      rw [e'] at q; cases q
      refine hm n t (h1 n t ?_)
      rw [Store.get_put, if_pos rfl]
  | @lay t kk s s1 s' a hok e1 r1 ih =>
    intro k o m o' m' w e e' h ho hm g
    subst e
    obtain ⟨l1, l2, rfl⟩ := rd_lay e1
    obtain ⟨o2, m2, q, h1, h2, h3⟩ := r1.noted rfl h
    rw [e'] at q; cases q
    cases el : w.laid t with
    | some x =>
      have q1 : (VS.base w).lay t = .error x := by unfold VS.lay; simp [el]
      rw [wp_lay_error q1]
      obtain ⟨a1, a2⟩ := laid_some el
      have z := Store.Good.get g a1
      exact ⟨hok, x, t, rfl, a2, z.2, z.1, hok⟩
    | none =>
      have q1 : (VS.base w).lay t = .ok (.base (w.put (sealOf t) t)) := by unfold VS.lay; simp [el]
      rw [wp_lay_ok q1]
      refine ⟨hok, ih rfl e' h ho.puts (fun n x z => ?_) (g.put hok)⟩
      exact SubS.self_put (laid_none el) n x (hm n x z)
theorem lacks {α : Type} {P : Pg α} {s s' : VS} {a : α} (r : Runs P s a s') : ∀ {k o m o' m' w : Store} {n0 : Int} {t0 : Th}, s = .reader k o m → s' = .reader k o' m' → SubS m k → SubS o w →
    (∀ n t, Store.get w n = some t → Store.get o n = some t ∨ Store.get k n = some t) → Store.get m' n0 = some t0 → Store.get m n0 = none → Store.get w n0 = none →
    wp P (.base w) (fun _ _ => False) (fun e => e = .noPaper) := by
  induction r with
  | ret =>
    intro k o m o' m' w n0 t0 e e' _ _ _ h1 h2 _
    rw [e] at e'; cases e'
    rw [h1] at h2; cases h2
  | @thing n kk s s1 s' t a e1 r1 ih =>
    intro k o m o' m' w n0 t0 e e' h ho hw h1 h2 h3
    subst e
    cases q : Store.get w n with
    | none =>
      have q1 : (VS.base w).thing n = none := by unfold VS.thing; simp [q]
      rw [wp_thing_none q1]
    | some x =>
      have q1 : (VS.base w).thing n = some (x, .base w) := by unfold VS.thing; simp [q]
      rw [wp_thing_some q1]
      rcases rd_thing e1 with ⟨e2, e3⟩ | ⟨e2, e3, e4⟩
      · have := ho n t e2
        rw [q] at this; cases this
        exact ih e3 e' h ho hw h1 h2 h3
      · rcases hw n x q with z | z
        · rw [e2] at z; cases z
        · rw [e3] at z; cases z
          refine ih e4 e' (h.put e3) ho hw h1 ?_ h3
          rw [Store.get_put, if_neg (fun z => by rw [z, q] at h3; cases h3)]
          exact h2
  | @lay t kk s s1 s' a hok e1 r1 ih =>
    intro k o m o' m' w n0 t0 e e' h ho hw h1 h2 h3
    subst e
    obtain ⟨l1, l2, rfl⟩ := rd_lay e1
    have el : w.laid t = none := by
      refine laid_of ?_
      cases q : Store.get w (sealOf t) with
      | none => exact .inl rfl
      | some x =>
        rcases hw _ x q with z | z
        · rcases laid_none l2 with y | y <;> rw [y] at z <;> cases z
          exact .inr rfl
        · rcases laid_none l1 with y | y <;> rw [y] at z <;> cases z
          exact .inr rfl
    have q1 : (VS.base w).lay t = .ok (.base (w.put (sealOf t) t)) := by unfold VS.lay; simp [el]
    rw [wp_lay_ok q1]
    have ne : ¬ n0 = sealOf t := fun z => by
      obtain ⟨o2, m2, q, _, _, x3⟩ := r1.noted rfl h
      rw [e'] at q; cases q
      have := x3 n0 t (by rw [Store.get_put, if_pos z]) h2
      rw [h1] at this; cases this
    refine ⟨hok, ih rfl e' h ho.puts (fun n x z => ?_) h1 h2 ?_⟩
    · rw [Store.get_put] at z ⊢
      by_cases q : n = sealOf t
      · rw [if_pos q] at z ⊢; exact .inl z
      · rw [if_neg q] at z ⊢; exact hw n x z
    · rw [Store.get_put, if_neg ne]; exact h3

/-! ### a paper is laid -/
theorem wp_layAll : ∀ (l : List Th) (w : Store), (∀ t ∈ l, Ok 3 t) → w.Good → wp (layAll l) (.base w) (fun _ s => ∃ w', s = .base w' ∧ w'.Good ∧ SubS w w' ∧ ∀ t ∈ l, Store.get w' (sealOf t) = some t) SClash
  | [], w, _, g => ⟨w, rfl, g, SubS.refl _, fun _ h => by cases h⟩
  | t :: ts, w, h, g => by
    have hok := h t List.mem_cons_self
    show wp (.lay t fun _ => layAll ts) _ _ _
    cases el : w.laid t with
    | some x =>
      have q1 : (VS.base w).lay t = .error x := by unfold VS.lay; simp [el]
      rw [wp_lay_error q1]
      obtain ⟨a1, a2⟩ := laid_some el
      have z := Store.Good.get g a1
      exact ⟨hok, x, t, rfl, a2, z.2, z.1, hok⟩
    | none =>
      have q1 : (VS.base w).lay t = .ok (.base (w.put (sealOf t) t)) := by unfold VS.lay; simp [el]
      rw [wp_lay_ok q1]
      refine ⟨hok, wp_mono _ _ (fun _ s z => ?_) (fun _ z => z) (wp_layAll ts _ (fun u hu => h u (List.mem_cons_of_mem _ hu)) (g.put hok))⟩
      obtain ⟨w', e, g', sub, all⟩ := z
      refine ⟨w', e, g', (SubS.self_put (laid_none el)).trans sub, fun u hu => ?_⟩
      rcases List.mem_cons.mp hu with e2 | hu
      · subst e2
        exact sub _ _ (by rw [Store.get_put, if_pos rfl])
      · exact all u hu
theorem wp_layAll_sub {k : Store} : ∀ (l : List Th) (w : Store), (∀ t ∈ l, Ok 3 t ∧ Store.get k (sealOf t) = some t) → w.Good → SubS w k →
    wp (layAll l) (.base w) (fun _ s => ∃ w', s = .base w' ∧ w'.Good ∧ SubS w' k ∧ SubS w w' ∧ (∀ t ∈ l, Store.get w' (sealOf t) = some t) ∧ ∀ n t, Store.get w' n = some t → Store.get w n = some t ∨ t ∈ l) (fun _ => False)
  | [], w, _, g, h => ⟨w, rfl, g, h, SubS.refl _, (fun _ z => by cases z), fun n t e => Or.inl e⟩
  | t :: ts, w, h, g, hs => by
    obtain ⟨hok, hk⟩ := h t List.mem_cons_self
    show wp (.lay t fun _ => layAll ts) _ _ _
    have el : w.laid t = none := by
      refine laid_of ?_
      cases q : Store.get w (sealOf t) with
      | none => exact .inl rfl
      | some x =>
        have := hs _ _ q
        rw [hk] at this
        exact .inr this.symm
    have q1 : (VS.base w).lay t = .ok (.base (w.put (sealOf t) t)) := by unfold VS.lay; simp [el]
    rw [wp_lay_ok q1]
    refine ⟨hok, wp_mono _ _ (fun _ s z => ?_) (fun _ z => z) (wp_layAll_sub ts _ (fun u hu => h u (List.mem_cons_of_mem _ hu)) (g.put hok) (hs.put hk))⟩
    obtain ⟨w', e, g', sub, sub2, all, back⟩ := z
    refine ⟨w', e, g', sub, (SubS.self_put (laid_none el)).trans sub2, fun u hu => ?_, fun n u e2 => ?_⟩
    · rcases List.mem_cons.mp hu with e2 | hu
      · subst e2
        exact sub2 _ _ (by rw [Store.get_put, if_pos rfl])
      · exact all u hu
    · rcases back n u e2 with z | z
      · rw [Store.get_put] at z
        by_cases q : n = sealOf t
        · rw [if_pos q] at z; cases z; exact .inr List.mem_cons_self
        · rw [if_neg q] at z; exact .inl z
      · exact .inr (List.mem_cons_of_mem _ z)

/-! ### the things of a store, rising by their numbers -/
def Things (m : Store) (ts : List Th) : Prop := ∃ ns : List Int, ns.Perm (m.map (·.1)) ∧ ns.Pairwise (· ≤ ·) ∧ ts.map some = ns.map (Store.get m)
theorem sorted_unique : ∀ {a b : List Int}, a.Perm b → a.Pairwise (· ≤ ·) → b.Pairwise (· ≤ ·) → a = b := fun p ha hb => List.Perm.eq_of_pairwise (fun x y _ _ h1 h2 => by omega) ha hb p
theorem map_some_inj : ∀ {a b : List Th}, a.map some = b.map some → a = b
  | [], [], _ => rfl
  | [], _ :: _, h => by cases h
  | _ :: _, [], h => by cases h
  | x :: a, y :: b, h => by
    rw [List.map_cons, List.map_cons] at h
    injection h with h1 h2
    rw [Option.some.inj h1, map_some_inj h2]
theorem Things.same {m : Store} {a b : List Th} (x : Things m a) (y : Things m b) : a = b := by
  obtain ⟨n1, p1, s1, e1⟩ := x
  obtain ⟨n2, p2, s2, e2⟩ := y
  have e : n1 = n2 := sorted_unique (p1.trans p2.symm) s1 s2
  subst e
  have : a.map some = b.map some := e1.trans e2.symm
  exact map_some_inj this
theorem Things.mem {m : Store} (g : m.Good) {ts : List Th} (x : Things m ts) {t : Th} : t ∈ ts ↔ Store.get m (sealOf t) = some t := by
  obtain ⟨ns, p, _, e⟩ := x
  constructor
  · intro h
    have h1 : some t ∈ ns.map (Store.get m) := by rw [← e]; exact List.mem_map.mpr ⟨t, h, rfl⟩
    obtain ⟨n, hn, e2⟩ := List.mem_map.mp h1
    have := (Store.Good.get g e2).2
    rw [this]; exact e2
  · intro h
    have h1 : (sealOf t) ∈ m.map (·.1) := List.mem_map.mpr ⟨_, Store.get_mem h, rfl⟩
    have h2 : some t ∈ ts.map some := by
      rw [e]
      exact List.mem_map.mpr ⟨sealOf t, p.mem_iff.mpr h1, h⟩
    obtain ⟨u, hu, e2⟩ := List.mem_map.mp h2
    cases e2
    exact hu
theorem Things.seals {m : Store} (g : m.Good) {ts : List Th} (x : Things m ts) : (ts.map sealOf).Pairwise (· < ·) := by
  obtain ⟨ns, p, s, e⟩ := x
  have e1 : ts.map sealOf = ns := by
    have h : ∀ (ns : List Int) (ts : List Th), ts.map some = ns.map (Store.get m) → ts.map sealOf = ns := by
      intro ns
      induction ns with
      | nil => intro ts h; cases ts with
        | nil => rfl
        | cons t ts => cases h
      | cons n ns ih =>
        intro ts h
        cases ts with
        | nil => cases h
        | cons t ts =>
          rw [List.map_cons, List.map_cons] at h
          injection h with h1 h2
          rw [List.map_cons, ih ts h2, (Store.Good.get g h1.symm).2]
    exact h ns ts e
  rw [e1]
  have nd : ns.Nodup := p.nodup_iff.mpr g.nd
  have := List.Pairwise.and s nd
  exact this.imp fun h => by omega
theorem Things.ok {m : Store} (g : m.Good) {ts : List Th} (x : Things m ts) : ∀ t ∈ ts, Ok 3 t := fun t h => (Store.Good.get g ((x.mem g).mp h)).1
end Pv
set_option Elab.async false
set_option linter.all false
set_option maxRecDepth 100000
set_option maxHeartbeats 4000000
/-! Things and answers in the heap; == and != of them. -/
namespace Ph
open PySem PySem.Spec PyProof.Rows L2 Pv PySem.SeqAt

mutual
/-- the value v is the thing t in H -/
inductive IsT (H : Hp) : V → Th → Prop
  | non : IsT H .non .none
  | int (i : Int) : IsT H (.int i) (.num i)
  | str (x : Str) : IsT H (.str x) (.text x)
  | tup {a : Addr} {xs : List V} {ts : List Th} : H a = some (.tup xs) → IsTs H xs ts → IsT H (.ref a) (.tup ts)
inductive IsTs (H : Hp) : List V → List Th → Prop
  | nil : IsTs H [] []
  | cons {x : V} {t : Th} {xs : List V} {ts : List Th} : IsT H x t → IsTs H xs ts → IsTs H (x :: xs) (t :: ts)
end
/-- the tuples stay -/
def Tups (H H' : Hp) : Prop := ∀ a xs, H a = some (.tup xs) → H' a = some (.tup xs)
mutual
theorem IsT.ext {H H' : Hp} (e : Tups H H') : ∀ {t : Th} {v : V}, IsT H v t → IsT H' v t
  | .none, _, h => by cases h; exact .non
  | .num i, _, h => by cases h; exact .int i
  | .text x, _, h => by cases h; exact .str x
  | .tup ts, _, h => by
    cases h with
    | tup h1 h2 => exact .tup (e _ _ h1) (IsTs.ext e h2)
theorem IsTs.ext {H H' : Hp} (e : Tups H H') : ∀ {ts : List Th} {xs : List V}, IsTs H xs ts → IsTs H' xs ts
  | [], _, h => by cases h; exact .nil
  | t :: ts, _, h => by
    cases h with
    | cons h1 h2 => exact .cons (IsT.ext e h1) (IsTs.ext e h2)
end
theorem Same.tups {H H' : Hp} (e : Same H H') : Tups H H' := fun a xs h => e a _ h
theorem IsT.same {H H' : Hp} (e : Same H H') {t : Th} {v : V} (h : IsT H v t) : IsT H' v t := h.ext (Same.tups e)
theorem IsTs.same {H H' : Hp} (e : Same H H') {t : List Th} {v : List V} (h : IsTs H v t) : IsTs H' v t := h.ext (Same.tups e)
mutual
theorem IsT.uniq {H : Hp} : ∀ {t t' : Th} {v : V}, IsT H v t → IsT H v t' → t = t'
  | .none, _, _, h, h' => by cases h; cases h'; rfl
  | .num i, _, _, h, h' => by cases h; cases h'; rfl
  | .text x, _, _, h, h' => by cases h; cases h'; rfl
  | .tup ts, _, _, h, h' => by
    cases h with
    | tup h1 h2 =>
      cases h' with
      | tup k1 k2 =>
        rw [h1] at k1; cases k1
        rw [IsTs.uniq h2 k2]
theorem IsTs.uniq {H : Hp} : ∀ {ts ts' : List Th} {xs : List V}, IsTs H xs ts → IsTs H xs ts' → ts = ts'
  | [], _, _, h, h' => by cases h; cases h'; rfl
  | t :: ts, _, _, h, h' => by
    cases h with
    | cons h1 h2 =>
      cases h' with
      | cons k1 k2 => rw [IsT.uniq h1 k1, IsTs.uniq h2 k2]
end
theorem IsTs.length {H : Hp} : ∀ {ts : List Th} {xs : List V}, IsTs H xs ts → xs.length = ts.length
  | [], _, h => by cases h; rfl
  | t :: ts, _, h => by
    cases h with
    | cons h1 h2 => simp [IsTs.length h2]
theorem IsTs.get {H : Hp} : ∀ {ts : List Th} {xs : List V} {i : Nat} {x : V}, IsTs H xs ts → xs[i]? = some x → ∃ t, ts[i]? = some t ∧ IsT H x t
  | [], _, _, _, h, e => by cases h; simp at e
  | t :: ts, _, 0, x, h, e => by
    cases h with
    | cons h1 h2 => simp at e; subst e; exact ⟨t, rfl, h1⟩
  | t :: ts, _, i + 1, x, h, e => by
    cases h with
    | cons h1 h2 =>
      simp at e
      obtain ⟨u, a, b⟩ := IsTs.get h2 e
      exact ⟨u, by simpa using a, b⟩
theorem IsTs.get' {H : Hp} : ∀ {ts : List Th} {xs : List V} {i : Nat} {t : Th}, IsTs H xs ts → ts[i]? = some t → ∃ x, xs[i]? = some x ∧ IsT H x t
  | [], _, _, _, h, e => by cases h; simp at e
  | t :: ts, _, 0, x, h, e => by
    cases h with
    | cons h1 h2 => simp at e; subst e; exact ⟨_, rfl, h1⟩
  | t :: ts, _, i + 1, x, h, e => by
    cases h with
    | cons h1 h2 =>
      simp at e
      obtain ⟨u, a, b⟩ := IsTs.get' h2 e
      exact ⟨u, by simpa using a, b⟩
theorem IsTs.append {H : Hp} : ∀ {ts us : List Th} {xs ys : List V}, IsTs H xs ts → IsTs H ys us → IsTs H (xs ++ ys) (ts ++ us)
  | [], _, _, _, h, h' => by cases h; exact h'
  | t :: ts, _, _, _, h, h' => by
    cases h with
    | cons h1 h2 => exact .cons h1 (IsTs.append h2 h')
theorem IsTs.reverse {H : Hp} : ∀ {ts : List Th} {xs : List V}, IsTs H xs ts → IsTs H xs.reverse ts.reverse
  | [], _, h => by cases h; exact .nil
  | t :: ts, _, h => by
    cases h with
    | cons h1 h2 =>
      rw [List.reverse_cons, List.reverse_cons]
      exact (IsTs.reverse h2).append (.cons h1 .nil)
theorem IsTs.take {H : Hp} : ∀ {ts : List Th} {xs : List V} (n : Nat), IsTs H xs ts → IsTs H (xs.take n) (ts.take n)
  | _, _, 0, _ => by simp only [List.take_zero]; exact .nil
  | [], _, n + 1, h => by cases h; exact .nil
  | t :: ts, _, n + 1, h => by
    cases h with
    | cons h1 h2 => exact .cons h1 (IsTs.take n h2)
theorem IsTs.drop {H : Hp} : ∀ {ts : List Th} {xs : List V} (n : Nat), IsTs H xs ts → IsTs H (xs.drop n) (ts.drop n)
  | _, _, 0, h => h
  | [], _, n + 1, h => by cases h; exact .nil
  | t :: ts, _, n + 1, h => by
    cases h with
    | cons h1 h2 => exact IsTs.drop n h2
theorem IsTs.mem {H : Hp} {ts : List Th} {xs : List V} (h : IsTs H xs ts) : ∀ x ∈ xs, ∃ t ∈ ts, IsT H x t := fun x hx => by
  obtain ⟨i, hi⟩ := List.mem_iff_getElem?.mp hx
  obtain ⟨t, a, b⟩ := h.get hi
  exact ⟨t, List.mem_of_getElem? a, b⟩

/-! ### as keys, as data -/
section
variable {X : Cx} {pins : List (Addr × Obj)} {σ : L2.St} {H : Hp} {s : Shared}
mutual
theorem IsT.nested (I : Inv X pins σ H s) : ∀ {t : Th} {v : V} {u : Value}, IsT H v t → RelV v u → NestedIs s.heap t u
  | .none, _, _, h, r => by cases h; cases r; exact .none
  | .num i, _, _, h, r => by cases h; obtain ⟨t, rfl⟩ := r; exact .int i t
  | .text x, _, _, h, r => by cases h; obtain ⟨t, rfl⟩ := r; exact .text x t
  | .tup ts, _, _, h, r => by
    cases h with
    | tup h1 h2 =>
      cases r
      obtain ⟨its, rv, ⟨o, ho, hc, n, hd⟩, _⟩ := I.tuple (SqT.of h1)
      exact .tup ho hc hd (IsTs.nested I h2 rv)
theorem IsTs.nested (I : Inv X pins σ H s) : ∀ {ts : List Th} {vs : List V} {us : List Value}, IsTs H vs ts → Vals vs us → NestedAll s.heap ts us
  | [], _, _, h, r => by cases h; cases r; exact .nil
  | t :: ts, _, _, h, r => by
    cases h with
    | cons h1 h2 =>
      cases r with
      | cons r1 r2 => exact .cons (IsT.nested I h1 r1) (IsTs.nested I h2 r2)
end
end
mutual
theorem IsT.dp {K : PySem.W.Frag} {H : Hp} : ∀ {t : Th} {v : V}, IsT H v t → Dp K H v t.data
  | .none, _, h => by cases h; exact .non
  | .num i, _, h => by cases h; exact .int i
  | .text x, _, h => by cases h; exact .str x
  | .tup ts, _, h => by
    cases h with
    | tup h1 h2 => exact .tup (SqT.of h1) (IsTs.dp h2)
theorem IsTs.dp {K : PySem.W.Frag} {H : Hp} : ∀ {ts : List Th} {xs : List V}, IsTs H xs ts → DpAll K H xs (NestedKey.datas ts)
  | [], _, h => by cases h; exact .nil
  | t :: ts, _, h => by
    cases h with
    | cons h1 h2 => exact .cons (IsT.dp h1) (IsTs.dp h2)
end
mutual
theorem data_plain : ∀ t : Th, (NestedKey.data t).plain = true
  | .none => rfl
  | .num _ => rfl
  | .text _ => rfl
  | .tup ts => by simp only [NestedKey.data, PyData.plain]; exact datas_plain ts
theorem datas_plain : ∀ ts : List Th, PyData.plainAll (NestedKey.datas ts) = true
  | [] => rfl
  | t :: ts => by simp only [NestedKey.datas, PyData.plainAll, data_plain t, datas_plain ts, Bool.and_self]
end
mutual
theorem data_depth : ∀ t : Th, (NestedKey.data t).depth = t.depth
  | .none => rfl
  | .num _ => rfl
  | .text _ => rfl
  | .tup ts => by simp only [NestedKey.data, PyData.depth, NestedKey.depth, datas_depth ts]
theorem datas_depth : ∀ ts : List Th, PyData.depthAll (NestedKey.datas ts) = NestedKey.depthAll ts
  | [] => rfl
  | t :: ts => by simp only [NestedKey.datas, PyData.depthAll, NestedKey.depthAll, data_depth t, datas_depth ts]
end
mutual
theorem eqv_data : ∀ a b : Th, PyData.eqv a.data b.data = NestedKey.beq a b
  | .none, .none => rfl
  | .num a, .num b => by simp [NestedKey.data, PyData.eqv, NestedKey.beq]; rfl
  | .text a, .text b => by simp [NestedKey.data, PyData.eqv, NestedKey.beq]; rfl
  | .tup a, .tup b => by simp only [NestedKey.data, PyData.eqv, NestedKey.beq]; exact eqv_datas a b
  | .none, .num _ => rfl
  | .none, .text _ => rfl
  | .none, .tup _ => rfl
  | .num _, .none => rfl
  | .num _, .text _ => rfl
  | .num _, .tup _ => rfl
  | .text _, .none => rfl
  | .text _, .num _ => rfl
  | .text _, .tup _ => rfl
  | .tup _, .none => rfl
  | .tup _, .num _ => rfl
  | .tup _, .text _ => rfl
theorem eqv_datas : ∀ a b : List Th, PyData.eqvAll (NestedKey.datas a) (NestedKey.datas b) = NestedKey.beqAll a b
  | [], [] => rfl
  | x :: a, y :: b => by simp only [NestedKey.datas, PyData.eqvAll, NestedKey.beqAll, eqv_data x y, eqv_datas a b]
  | [], _ :: _ => rfl
  | _ :: _, [] => rfl
end
/-! ### == and != -/
section
variable {X : Cx}
/-- things compared -/
def rEqT : R2 := fun x y H Q => ∃ a b : Th, IsT H x a ∧ IsT H y b ∧ a.depth ≤ 60 ∧ Q (.bl (decide (a = b))) H
def rNeT : R2 := fun x y H Q => ∃ a b : Th, IsT H x a ∧ IsT H y b ∧ a.depth ≤ 60 ∧ Q (.bl (!decide (a = b))) H
theorem op_eqT (hu : X.A.units + 64 < cLine) : OpR X (compareOp .Eq) rEqT := by
  intro pins s σ H x y v u Q I rx ry h
  obtain ⟨a, b, ha, hb, hd, q⟩ := h
  obtain ⟨as, r1⟩ := Dp.reads I a.data x v ha.dp rx
  obtain ⟨bs, r2⟩ := Dp.reads I b.data y u hb.dp ry
  have hm : min (NestedKey.data a).depth (NestedKey.data b).depth ≤ 60 := Nat.le_trans (Nat.min_le_left _ _) (by rw [data_depth]; exact hd)
  refine eq_plain r1 r2 (data_plain a) (data_plain b) (by omega) ?_
  rw [eqv_data, ← NestedKey.decide_eq]
  exact ⟨.bl _, H, I, rfl, q⟩
theorem op_neT (hu : X.A.units + 64 < cLine) : OpR X (compareOp .NotEq) rNeT := by
  intro pins s σ H x y v u Q I rx ry h
  obtain ⟨a, b, ha, hb, hd, q⟩ := h
  obtain ⟨as, r1⟩ := Dp.reads I a.data x v ha.dp rx
  obtain ⟨bs, r2⟩ := Dp.reads I b.data y u hb.dp ry
  have hm : min (NestedKey.data a).depth (NestedKey.data b).depth ≤ 60 := Nat.le_trans (Nat.min_le_left _ _) (by rw [data_depth]; exact hd)
  refine ne_plain r1 r2 (data_plain a) (data_plain b) (by omega) ?_
  rw [eqv_data, ← NestedKey.decide_eq]
  exact ⟨.bl _, H, I, rfl, q⟩
/-- data that are alike -/
def rEqS (K : PySem.W.Frag) : R2 := fun x y H Q => ∃ d : PyData, Dp K H x d ∧ Dp K H y d ∧ d.plain = true ∧ d.depth ≤ 60 ∧ Q (.bl true) H
def rNeS (K : PySem.W.Frag) : R2 := fun x y H Q => ∃ d : PyData, Dp K H x d ∧ Dp K H y d ∧ d.plain = true ∧ d.depth ≤ 60 ∧ Q (.bl false) H
theorem op_eqS (hu : X.A.units + 64 < cLine) : OpR X (compareOp .Eq) (rEqS X.K) := by
  intro pins s σ H x y v u Q I rx ry h
  obtain ⟨d, ha, hb, hp, hd, q⟩ := h
  obtain ⟨as, r1⟩ := Dp.reads I d x v ha rx
  obtain ⟨bs, r2⟩ := Dp.reads I d y u hb ry
  refine eq_plain r1 r2 hp hp (by have : min d.depth d.depth = d.depth := Nat.min_self _; omega) ?_
  rw [eqv_refl_plain d hp]
  exact ⟨.bl _, H, I, rfl, q⟩
theorem op_neS (hu : X.A.units + 64 < cLine) : OpR X (compareOp .NotEq) (rNeS X.K) := by
  intro pins s σ H x y v u Q I rx ry h
  obtain ⟨d, ha, hb, hp, hd, q⟩ := h
  obtain ⟨as, r1⟩ := Dp.reads I d x v ha rx
  obtain ⟨bs, r2⟩ := Dp.reads I d y u hb ry
  refine ne_plain r1 r2 hp hp (by have : min d.depth d.depth = d.depth := Nat.min_self _; omega) ?_
  rw [eqv_refl_plain d hp]
  exact ⟨.bl _, H, I, rfl, q⟩
/-- a list of data against the empty list -/
def rNeNil (K : PySem.W.Frag) : R2 := fun x y H Q => ∃ (ds : List PyData), Dp K H x (.list ds) ∧ Dp K H y (.list []) ∧ PyData.plainAll ds = true ∧ Q (.bl (!ds.isEmpty)) H
theorem op_neNil (hu : X.A.units + 64 < cLine) : OpR X (compareOp .NotEq) (rNeNil X.K) := by
  intro pins s σ H x y v u Q I rx ry h
  obtain ⟨ds, ha, hb, hp, q⟩ := h
  obtain ⟨as, r1⟩ := Dp.reads I (.list ds) x v ha rx
  obtain ⟨bs, r2⟩ := Dp.reads I (.list []) y u hb ry
  have hm : min (PyData.list ds).depth (PyData.list []).depth ≤ 1 := Nat.min_le_right _ _
  refine ne_plain r1 r2 hp rfl (by omega) ?_
  have e : PyData.eqv (.list ds) (.list []) = ds.isEmpty := by cases ds <;> rfl
  rw [e]
  exact ⟨.bl _, H, I, rfl, q⟩
end
/-! ### answers -/
mutual
inductive IsA (H : Hp) : V → An → Prop
  | th {v : V} {t : Th} : IsT H v t → IsA H v (.th t)
  | lst {a : Addr} {xs : List V} {l : List An} : H a = some (.lst xs) → IsAs H xs l → IsA H (.ref a) (.lst l)
inductive IsAs (H : Hp) : List V → List An → Prop
  | nil : IsAs H [] []
  | cons {x : V} {t : An} {xs : List V} {ts : List An} : IsA H x t → IsAs H xs ts → IsAs H (x :: xs) (t :: ts)
end
/-- tuples and lists stay -/
def Seqs (H H' : Hp) : Prop := (∀ a xs, H a = some (.tup xs) → H' a = some (.tup xs)) ∧ ∀ a xs, H a = some (.lst xs) → H' a = some (.lst xs)
mutual
theorem IsA.ext {H H' : Hp} (e : Seqs H H') : ∀ {t : An} {v : V}, IsA H v t → IsA H' v t
  | .th t, _, h => by
    cases h with
    | th h => exact .th (h.ext e.1)
  | .lst l, _, h => by
    cases h with
    | lst h1 h2 => exact .lst (e.2 _ _ h1) (IsAs.ext e h2)
theorem IsAs.ext {H H' : Hp} (e : Seqs H H') : ∀ {ts : List An} {xs : List V}, IsAs H xs ts → IsAs H' xs ts
  | [], _, h => by cases h; exact .nil
  | t :: ts, _, h => by
    cases h with
    | cons h1 h2 => exact .cons (IsA.ext e h1) (IsAs.ext e h2)
end
theorem Same.seqs {H H' : Hp} (e : Same H H') : Seqs H H' := ⟨fun a xs h => e a _ h, fun a xs h => e a _ h⟩
theorem IsA.same {H H' : Hp} (e : Same H H') {t : An} {v : V} (h : IsA H v t) : IsA H' v t := h.ext (Same.seqs e)
theorem IsAs.append {H : Hp} : ∀ {ts us : List An} {xs ys : List V}, IsAs H xs ts → IsAs H ys us → IsAs H (xs ++ ys) (ts ++ us)
  | [], _, _, _, h, h' => by cases h; exact h'
  | t :: ts, _, _, _, h, h' => by
    cases h with
    | cons h1 h2 => exact .cons h1 (IsAs.append h2 h')
theorem IsAs.length {H : Hp} : ∀ {ts : List An} {xs : List V}, IsAs H xs ts → xs.length = ts.length
  | [], _, h => by cases h; rfl
  | t :: ts, _, h => by
    cases h with
    | cons h1 h2 => simp [IsAs.length h2]
theorem IsAs.get {H : Hp} : ∀ {ts : List An} {xs : List V} {i : Nat} {x : V}, IsAs H xs ts → xs[i]? = some x → ∃ t, ts[i]? = some t ∧ IsA H x t
  | [], _, _, _, h, e => by cases h; simp at e
  | t :: ts, _, 0, x, h, e => by
    cases h with
    | cons h1 h2 => simp at e; subst e; exact ⟨t, rfl, h1⟩
  | t :: ts, _, i + 1, x, h, e => by
    cases h with
    | cons h1 h2 =>
      simp at e
      obtain ⟨u, a, b⟩ := IsAs.get h2 e
      exact ⟨u, by simpa using a, b⟩
theorem IsAs.ths {H : Hp} : ∀ {ts : List Th} {xs : List V}, IsTs H xs ts → IsAs H xs (ts.map An.th)
  | [], _, h => by cases h; exact .nil
  | t :: ts, _, h => by
    cases h with
    | cons h1 h2 => exact .cons (.th h1) (IsAs.ths h2)
mutual
def adat : An → PyData
  | .th t => t.data
  | .lst l => .list (adats l)
def adats : List An → List PyData
  | [] => []
  | a :: as => adat a :: adats as
end
mutual
theorem IsA.dp {K : PySem.W.Frag} {H : Hp} : ∀ {t : An} {v : V}, IsA H v t → Dp K H v (adat t)
  | .th t, _, h => by
    cases h with
    | th h => exact h.dp
  | .lst l, _, h => by
    cases h with
    | lst h1 h2 => exact .lst (SqL.of h1) (IsAs.dp h2)
theorem IsAs.dp {K : PySem.W.Frag} {H : Hp} : ∀ {ts : List An} {xs : List V}, IsAs H xs ts → DpAll K H xs (adats ts)
  | [], _, h => by cases h; exact .nil
  | t :: ts, _, h => by
    cases h with
    | cons h1 h2 => exact .cons (IsA.dp h1) (IsAs.dp h2)
end
mutual
theorem adat_plain : ∀ t : An, (adat t).plain = true
  | .th t => data_plain t
  | .lst l => by simp only [adat, PyData.plain]; exact adats_plain l
theorem adats_plain : ∀ ts : List An, PyData.plainAll (adats ts) = true
  | [] => rfl
  | t :: ts => by simp only [adats, PyData.plainAll, adat_plain t, adats_plain ts, Bool.and_self]
end
mutual
theorem adat_depth : ∀ {n : Nat} {t : An}, ADepth n t → (adat t).depth ≤ n
  | n, .th t, h => by rw [adat, data_depth]; exact h
  | n, .lst l, h => by
    simp only [ADepth] at h
    have := adats_depth h.2
    simp only [adat, PyData.depth]
    omega
theorem adats_depth : ∀ {n : Nat} {l : List An}, ADepths n l → PyData.depthAll (adats l) ≤ n
  | n, [], h => Nat.zero_le _
  | n, a :: as, h => by
    simp only [ADepths] at h
    have h1 := adat_depth h.1
    have h2 := adats_depth h.2
    simp only [adats, PyData.depthAll]
    omega
end
end Ph
set_option Elab.async false
set_option linter.all false
set_option maxRecDepth 100000
set_option maxHeartbeats 4000000
/-! A dict whose keys are things of any kind: numbers, texts, tuples of such. -/
namespace Dk
open PySem Pv

/-! ### entries -/
section
variable {β : Type}
abbrev En (β : Type) := List (Th × β × β)
def atE (l : En β) (k : Th) : Option (β × β) := (l.find? fun x => decide (x.1 = k)).map (·.2)
def stE (l : En β) (k : Th) (a v : β) : En β := if (atE l k).isSome = true then l.map (fun x => if x.1 = k then (x.1, x.2.1, v) else x) else l ++ [(k, a, v)]
def drE (l : En β) (k : Th) : En β := l.filter fun x => decide (x.1 ≠ k)
theorem atE_none {l : En β} {k : Th} : atE l k = none ↔ ∀ x ∈ l, x.1 ≠ k := by
  unfold atE
  rw [Option.map_eq_none_iff, List.find?_eq_none]
  simp
theorem atE_mem {l : En β} {k : Th} {p : β × β} (h : atE l k = some p) : (k, p) ∈ l := by
  unfold atE at h
  obtain ⟨x, hx, e⟩ := Option.map_eq_some_iff.mp h
  have h1 := List.find?_some hx
  have h2 := List.mem_of_find?_eq_some hx
  have h3 : x.1 = k := of_decide_eq_true h1
  rw [← h3, ← e]
  exact h2
theorem mem_atE {l : En β} {k : Th} {p : β × β} (hn : (l.map (·.1)).Nodup) (h : (k, p) ∈ l) : atE l k = some p := by
  induction l with
  | nil => cases h
  | cons x l ih =>
    rw [List.map_cons, List.nodup_cons] at hn
    rcases List.mem_cons.mp h with e | h
    · subst e; simp [atE]
    · have hne : ¬ x.1 = k := fun e => hn.1 (e ▸ List.mem_map.mpr ⟨_, h, rfl⟩)
      have := ih hn.2 h
      simpa [atE, List.find?_cons, hne] using this
theorem stE_keys (l : En β) (k : Th) (a v : β) (hn : (l.map (·.1)).Nodup) : ((stE l k a v).map (·.1)).Nodup := by
  unfold stE
  split
  · rw [List.map_map]
    have e : (l.map ((fun x => x.1) ∘ fun x => if x.1 = k then (x.1, x.2.1, v) else x)) = l.map (·.1) := List.map_congr_left fun x _ => by by_cases h : x.1 = k <;> simp [h]
    rw [e]; exact hn
  · rename_i h
    have h0 : atE l k = none := by simpa using h
    rw [List.map_append, List.nodup_append]
    refine ⟨hn, by simp, fun x hx y hy => ?_⟩
    simp only [List.map_cons, List.map_nil, List.mem_singleton] at hy
    subst hy
    obtain ⟨z, hz, rfl⟩ := List.mem_map.mp hx
    exact atE_none.mp h0 z hz
theorem drE_keys (l : En β) (k : Th) (hn : (l.map (·.1)).Nodup) : ((drE l k).map (·.1)).Nodup := List.Nodup.sublist (List.Sublist.map _ List.filter_sublist) hn
theorem stE_mem {l : En β} {k : Th} {a v : β} {x : Th × β × β} (h : x ∈ stE l k a v) : (∃ y ∈ l, x.1 = y.1 ∧ x.2.1 = y.2.1 ∧ (x.2.2 = y.2.2 ∨ x.2.2 = v)) ∨ x = (k, a, v) := by
  unfold stE at h
  split at h
  · obtain ⟨y, hy, rfl⟩ := List.mem_map.mp h
    refine .inl ⟨y, hy, ?_⟩
    by_cases e : y.1 = k <;> simp [e]
  · rcases List.mem_append.mp h with h | h
    · exact .inl ⟨x, h, rfl, rfl, .inl rfl⟩
    · exact .inr (List.mem_singleton.mp h)
theorem stE_length (l : En β) (k : Th) (a v : β) : (stE l k a v).length ≤ l.length + 1 := by
  unfold stE
  split
  · simp
  · simp
theorem drE_length (l : En β) (k : Th) : (drE l k).length ≤ l.length := List.length_filter_le _ _
theorem atE_st (l : En β) (k : Th) (a v : β) : ∃ b, atE (stE l k a v) k = some (b, v) := by
  unfold stE
  cases h : atE l k with
  | some p =>
    rw [if_pos (by rfl)]
    refine ⟨p.1, ?_⟩
    induction l with
    | nil => cases h
    | cons x l ih =>
      by_cases e : x.1 = k
      · have : p = x.2 := by simpa [atE, e] using h.symm
        simp [atE, e, this]
      · have h' : atE l k = some p := by simpa [atE, List.find?_cons, e] using h
        have := ih h'
        simpa [atE, List.find?_cons, e] using this
  | none =>
    rw [if_neg (by simp)]
    refine ⟨a, ?_⟩
    have := atE_none.mp h
    induction l with
    | nil => simp [atE]
    | cons x l ih =>
      have e : ¬ x.1 = k := this x List.mem_cons_self
      have h' : atE l k = none := by simpa [atE, List.find?_cons, e] using h
      have := ih h' (fun y hy => this y (List.mem_cons_of_mem _ hy))
      simpa [atE, List.find?_cons, e] using this
end

/-! ### the dict in the model -/
open Sem (wp)
section
variable {prog : Program} {w : World} {A : Around} {E : Value → Shared → Prop} {s : Shared}
def entO (w : World) (x : Th × Value × Value) : DictEntry := ⟨x.1.hash w, x.2.1, x.2.2⟩
/-- a thing as a key -/
def KeyOk (h : Heap) (k : Th) (u : Value) : Prop := NestedIs h k u ∧ k.depth ≤ 8
structure DictAt (w : World) (h : Heap) (d : Addr) (l : En Value) (o : Obj) (es : Array DictEntry) (ep : Nat) : Prop where
  ho : h.get? d = some o
  hc : o.ExactDict
  hd : o.data = .dict es ep
  he : es.toList = l.map (entO w)
  hn : (l.map (·.1)).Nodup
theorem DictAt.at_ {h : Heap} {d : Addr} {l : En Value} {o : Obj} {es : Array DictEntry} {ep : Nat} (x : DictAt w h d l o es ep) (j : Nat) : es[j]? = (l[j]?).map (entO w) := by
  rw [← Array.getElem?_toList, x.he, List.getElem?_map]
theorem DictAt.size {h : Heap} {d : Addr} {l : En Value} {o : Obj} {es : Array DictEntry} {ep : Nat} (x : DictAt w h d l o es ep) : es.size = l.length := by
  rw [← Array.length_toList, x.he, List.length_map]
theorem quiet_any {u : Value} {k : Th} {Q : Bool → Shared → Prop} (hk : KeyOk s.heap k u) (h : Q true s) : wpAny (model prog w) A (eqIsQuiet 8 u) Q E s := quiet_key k u 8 s hk.1 hk.2 A E Q h
theorem silent {u : Value} {k : Th} {st : List Value} {Q : Bool → Shared → Prop} (hk : KeyOk s.heap k u) (hst : ∀ v ∈ st, ∃ k', KeyOk s.heap k' v) (h : Q false s) : wpAny (model prog w) A (tableMayTell u st) Q E s := by
  unfold tableMayTell
  split
  · exact wpAny_pure h
  · refine wpAny_bind (quiet_any hk ?_)
    simp only [Bool.not_true, Bool.false_eq_true, if_false]
    refine wpAny_bind ?_
    refine wpAny_forIn_list _ (fun left r s' => s' = s ∧ r = (none, ()) ∧ ∀ v ∈ left, ∃ k', KeyOk s.heap k' v) _ ?_ ?_ _ _ ⟨rfl, rfl, hst⟩
    · intro x left r s' ⟨e1, e2, hr⟩
      subst e1 e2
      obtain ⟨k', hb⟩ := hr x List.mem_cons_self
      refine wpAny_bind (quiet_any hb ?_)
      simp only [Bool.not_true, Bool.false_eq_true, if_false]
      exact wpAny_pure ⟨rfl, rfl, fun v hv => hr v (List.mem_cons_of_mem _ hv)⟩
    · intro r s' ⟨e1, e2, _⟩
      subst e1 e2
      exact wpAny_pure h
/-- what a look for a key gives -/
theorem find_any {d : Addr} {u : Value} {o : Obj} {es : Array DictEntry} {ep : Nat} {l : En Value} {k : Th} {Q : Option Nat → Shared → Prop} (hu : A.units + 8 < cLine) (hk : KeyOk s.heap k u) (D : DictAt w s.heap d l o es ep) (hl : ∀ x ∈ l, KeyOk s.heap x.1 x.2.1)
    (hnone : (∀ x ∈ l, x.1 ≠ k) → Q none s) (hsome : ∀ (j : Nat) (p : Value × Value), l[j]? = some (k, p) → Q (some j) s) :
    wpAny (model prog w) A (dictFind d u (k.hash w)) Q E s := by
  have uniq : ∀ {i j : Nat} {p q : Value × Value}, l[i]? = some (k, p) → l[j]? = some (k, q) → i = j := fun {i j p q} hi hj => by
    have hi' : (l.map (·.1))[i]? = some k := by rw [List.getElem?_map, hi]; rfl
    have hj' : (l.map (·.1))[j]? = some k := by rw [List.getElem?_map, hj]; rfl
    exact (List.getElem?_inj (List.getElem?_eq_some_iff.mp hi').1 D.hn).mp (hi'.trans hj'.symm)
  have isn : ∀ (no : ∀ (j : Nat) (p : Value × Value), l[j]? = some (k, p) → False), Q none s := fun no => hnone fun x hx e => by
    obtain ⟨j, hj⟩ := List.mem_iff_getElem?.mp hx
    exact no j x.2 (by rw [hj, ← e])
  -- the places
  have places : ∀ {x : Nat}, x ∈ placesWithHash es.size (fun i => es[i]?.map (·.hash)) (k.hash w) ↔ ∃ y, l[x]? = some y ∧ y.1.hash w = k.hash w := fun {x} => by
    unfold placesWithHash
    rw [List.mem_filter, List.mem_range]
    constructor
    · intro ⟨h1, h2⟩
      obtain ⟨y, hy⟩ : ∃ y, l[x]? = some y := ⟨l[x]'(by rw [← D.size]; exact h1), List.getElem?_eq_getElem _⟩
      refine ⟨y, hy, ?_⟩
      have h3 : ((es[x]?.map (·.hash)) == some (k.hash w)) = true := h2
      rw [D.at_, hy] at h3
      simpa [entO] using h3
    · intro ⟨y, hy, e⟩
      refine ⟨?_, ?_⟩
      · rw [D.size]
        exact (List.getElem?_eq_some_iff.mp hy).1
      · show ((es[x]?.map (·.hash)) == some (k.hash w)) = true
        rw [D.at_, hy]
        simp [entO, e]
  have pnd : (placesWithHash es.size (fun i => es[i]?.map (·.hash)) (k.hash w)).Nodup := by
    unfold placesWithHash
    exact List.Nodup.sublist List.filter_sublist List.nodup_range
  have eqs : ∀ {y : Th × Value × Value} {Q' : Bool → Shared → Prop}, y ∈ l → Q' (decide (y.1 = k)) s → wpAny (model prog w) A (eqBool y.2.1 u) Q' E s := fun {y Q'} hy hq => by
    have z := eqAt_key y.1 k A s y.2.1 u (hl y hy).1 hk.1 (by have := Nat.min_le_right y.1.depth k.depth; have := hk.2; omega)
    exact z prog w E Q' (by rw [← NestedKey.decide_eq]; exact hq)
  generalize hP : placesWithHash es.size (fun i => es[i]?.map (·.hash)) (k.hash w) = P at places pnd
  unfold dictFind
  try with_reducible refine wpAny_holding ?_
  refine wpAny_bind (wpAny_dictEntries D.ho D.hd ?_)
  dsimp only
  rw [hP]
  -- the walk where all is carried by value
  have walk : wpAny (model prog w) A (dictWalkPlain d u (k.hash w) es P) Q E s := by
    unfold dictWalkPlain
    refine wpAny_bind ?_
    refine wpAny_forIn_list _ (fun left r s' => s' = s ∧ r = (none, ()) ∧ (∀ x ∈ left, x ∈ P) ∧ ∀ (j : Nat) (p : Value × Value), l[j]? = some (k, p) → j ∈ left) _ ?_ ?_ _ _
      ⟨rfl, rfl, fun x hx => hx, fun j p hj => places.mpr ⟨_, hj, rfl⟩⟩
    · intro x left r s' ⟨e1, e2, hx, hall⟩
      subst e1 e2
      obtain ⟨y, hy, hh⟩ := places.mp (hx x List.mem_cons_self)
      have hex : es[x]? = some (entO w y) := by rw [D.at_, hy]; rfl
      rw [hex]
      dsimp only
      rw [if_pos (show ((entO w y).hash == k.hash w) = true by simp [entO, hh])]
      refine wpAny_bind (wpAny_dictEpoch D.ho D.hd (wpAny_bind (eqs (List.mem_of_getElem? hy) (wpAny_bind (wpAny_dictEpoch D.ho D.hd ?_)))))
      show wpAny _ _ (if (ep != ep) = true then _ else _) _ E _
      rw [if_neg (by simp)]
      by_cases e : y.1 = k
      · rw [decide_eq_true e]
        refine wpAny_bind (wpAny_rule (wpAny_pure (wpAny_pure (hsome x y.2 ?_))))
        rw [hy, ← e]
      · rw [decide_eq_false e]
        refine wpAny_bind (wpAny_rule (wpAny_pure ⟨rfl, rfl, fun z hz => hx z (List.mem_cons_of_mem _ hz), fun j p hj => ?_⟩))
        rcases List.mem_cons.mp (hall j p hj) with q | q
        · subst q
          rw [hy] at hj
          cases hj
          exact absurd rfl e
        · exact q
    · intro r s' ⟨e1, e2, _, hall⟩
      subst e1 e2
      exact wpAny_pure (isn fun j p hj => by have := hall j p hj; cases this)
  have stk : ∀ v ∈ P.filterMap (fun i => es[i]?.map (·.key)), ∃ k', KeyOk s.heap k' v := fun v hv => by
    obtain ⟨i, hi, e⟩ := List.mem_filterMap.mp hv
    obtain ⟨y, hy, _⟩ := places.mp hi
    rw [D.at_, hy] at e
    cases e
    exact ⟨_, hl y (List.mem_of_getElem? hy)⟩
  -- the walk among objects
  have far : ∀ (tells : Bool), tells = false → wpAny (model prog w) A (do
      if tells && (P.filterMap fun i => es[i]?.map (·.key)).length ≥ 2 then unsupported "dict.find:order-among-keys-of-one-hash"
      let mut hit : Option Nat := none
      for i in P do
        if let some e := es[i]? then
          if e.hash == k.hash w then
            let before ← dictEpoch d (keyPart u)
            let same ← eqBool e.key u
            if (← dictEpoch d (keyPart u)) != before then unsupported "dict.changed-during-lookup"
            if same then
              if hit.isSome then unsupported "dict.find:order-among-keys-of-one-hash"
              rule "dict.find.hit"
              if (P.filterMap fun i => es[i]?.map (·.key)).length < 2 then return some i
              hit := some i
            else
              rule "dict.find.same-hash-other-key"
              if tells && !(0 ≤ k.hash w && k.hash w < 32) then unsupported "dict.find:asked-again-or-not-hangs-on-the-table"
      return hit) Q E s := fun tells ht => by
    subst ht
    rw [if_neg (by simp)]
    refine wpAny_bind ?_
    refine wpAny_forIn_list _ (fun left r s' => s' = s ∧ left.Nodup ∧ (∀ x ∈ left, x ∈ P) ∧ ∃ hit, r = (none, hit) ∧
      ((hit = none ∧ ∀ (j : Nat) (p : Value × Value), l[j]? = some (k, p) → j ∈ left) ∨ ∃ j p, hit = some j ∧ l[j]? = some (k, p) ∧ j ∉ left)) _ ?_ ?_ _ _
      ⟨rfl, pnd, fun x hx => hx, none, rfl, .inl ⟨rfl, fun j p hj => places.mpr ⟨_, hj, rfl⟩⟩⟩
    · intro x left r s' ⟨e1, nd, hx, hit, e2, hH⟩
      subst e1 e2
      rw [List.nodup_cons] at nd
      obtain ⟨y, hy, hh⟩ := places.mp (hx x List.mem_cons_self)
      have hx' : ∀ z ∈ left, z ∈ P := fun z hz => hx z (List.mem_cons_of_mem _ hz)
      have hex : es[x]? = some (entO w y) := by rw [D.at_, hy]; rfl
      rw [hex]
      dsimp only
      rw [if_pos (show ((entO w y).hash == k.hash w) = true by simp [entO, hh])]
      refine wpAny_bind (wpAny_dictEpoch D.ho D.hd (wpAny_bind (eqs (List.mem_of_getElem? hy) (wpAny_bind (wpAny_dictEpoch D.ho D.hd ?_)))))
      show wpAny _ _ (if (ep != ep) = true then _ else _) _ E _
      rw [if_neg (by simp)]
      by_cases e : y.1 = k
      · have hy' : l[x]? = some (k, y.2) := by rw [hy, ← e]
        rw [decide_eq_true e]
        rcases hH with ⟨h0, hall⟩ | ⟨j, p, h1, h2, h3⟩
        · subst h0
          first | rw [if_pos rfl] | skip
          simp only [Option.isSome_none, Bool.false_eq_true, if_false]
          first | refine wpAny_bind (wpAny_pure ?_) | skip
          refine wpAny_bind (wpAny_rule ?_)
          split
          · exact wpAny_pure (wpAny_pure (hsome x _ hy'))
          · exact wpAny_pure ⟨rfl, nd.2, hx', some x, rfl, .inr ⟨x, _, rfl, hy', nd.1⟩⟩
        · exact absurd (show j ∈ x :: left by rw [uniq h2 hy']; exact List.mem_cons_self) h3
      · rw [decide_eq_false e]
        simp only [Bool.false_eq_true, if_false]
        have next : (hit = none ∧ ∀ (j : Nat) (p : Value × Value), l[j]? = some (k, p) → j ∈ left) ∨ ∃ j p, hit = some j ∧ l[j]? = some (k, p) ∧ j ∉ left := by
          rcases hH with ⟨h0, hall⟩ | ⟨j, p, h1, h2, h3⟩
          · refine .inl ⟨h0, fun j p hj => ?_⟩
            rcases List.mem_cons.mp (hall j p hj) with q | q
            · subst q
              rw [hy] at hj
              cases hj
              exact absurd rfl e
            · exact q
          · exact .inr ⟨j, p, h1, h2, fun m => h3 (List.mem_cons_of_mem _ m)⟩
        refine wpAny_bind (wpAny_rule ?_)
        first | rw [if_neg (by simp)] | skip
        first
          | exact wpAny_pure ⟨rfl, nd.2, hx', hit, rfl, next⟩
          | exact wpAny_bind (wpAny_pure (wpAny_pure ⟨rfl, nd.2, hx', hit, rfl, next⟩))
    · intro r s' ⟨e1, nd, hx, hit, e2, hH⟩
      subst e1 e2
      rcases hH with ⟨h0, hall⟩ | ⟨j, p, h1, h2, h3⟩
      · subst h0
        exact wpAny_pure (isn fun j p hj => by have := hall j p hj; cases this)
      · subst h1
        exact wpAny_pure (hsome j p h2)
  have hk1 := hk.1
  generalize hk1' : u = u' at hk1
  cases hk1
  case none =>
    subst hk1'
    by_cases hall : ((Value.none :: P.filterMap fun i => es[i]?.map (·.key)).all carriedByValue) = true
    · rw [if_pos hall]; exact walk
    · rw [if_neg hall]
      by_cases hone : ((P.filterMap fun i => es[i]?.map (·.key)) == [Value.none]) = true
      · rw [if_pos hone]; exact wpAny_bind (wpAny_pure (far false rfl))
      · rw [if_neg hone]; exact wpAny_bind (silent hk stk (far false rfl))
  case bool b i e =>
    subst hk1'
    by_cases hall : ((Value.bool b :: P.filterMap fun i => es[i]?.map (·.key)).all carriedByValue) = true
    · rw [if_pos hall]; exact walk
    · rw [if_neg hall]
      by_cases hone : ((P.filterMap fun i => es[i]?.map (·.key)) == [Value.bool b]) = true
      · rw [if_pos hone]; exact wpAny_bind (wpAny_pure (far false rfl))
      · rw [if_neg hone]; exact wpAny_bind (silent hk stk (far false rfl))
  case int i t =>
    subst hk1'
    by_cases hall : ((Value.int i t :: P.filterMap fun i => es[i]?.map (·.key)).all carriedByValue) = true
    · rw [if_pos hall]; exact walk
    · rw [if_neg hall]
      by_cases hone : ((P.filterMap fun i => es[i]?.map (·.key)) == [Value.int i t]) = true
      · rw [if_pos hone]; exact wpAny_bind (wpAny_pure (far false rfl))
      · rw [if_neg hone]; exact wpAny_bind (silent hk stk (far false rfl))
  case text x t =>
    subst hk1'
    show wpAny (model prog w) A (if (es.all fun e => isExactStrKey e.key) = true then foundByValue d (Value.str x t) es x else _) Q E s
    by_cases hstr : (es.all fun e => isExactStrKey e.key) = true
    · rw [if_pos hstr]
      unfold foundByValue
      cases hf : es.findIdx? (fun e => e.key.isStr x) with
      | none =>
        refine wpAny_pure (isn fun j p hj => ?_)
        have h1 := Array.findIdx?_eq_none_iff.mp hf (entO w (.text x, p)) (by
          rw [← Array.mem_toList_iff, D.he]
          exact List.mem_map.mpr ⟨_, List.mem_of_getElem? hj, rfl⟩)
        have h2 := (hl _ (List.mem_of_getElem? hj)).1
        cases hp : p.1 with
        | str y t' =>
          rw [hp] at h2
          cases h2
          simp [entO, hp, Value.isStr] at h1
        | _ => rw [hp] at h2; cases h2
      | some i =>
        obtain ⟨hlt, hi, _⟩ := Array.findIdx?_eq_some_iff_getElem.mp hf
        obtain ⟨y, hy⟩ : ∃ y, l[i]? = some y := ⟨l[i]'(by rw [← D.size]; exact hlt), List.getElem?_eq_getElem _⟩
        have hex : es[i]? = some (entO w y) := by rw [D.at_, hy]; rfl
        have hei : es[i] = entO w y := by
          have := Array.getElem?_eq_getElem hlt
          rw [hex] at this
          exact (Option.some.inj this).symm
        have h2 := (hl _ (List.mem_of_getElem? hy)).1
        have e : y.1 = .text x := by
          rw [hei] at hi
          cases hp : y.2.1 with
          | str z t' =>
            rw [hp] at h2
            generalize hq : y.1 = q at h2
            cases h2
            have : z = x := by simpa [entO, hp, Value.isStr] using hi
            rw [this]
          | _ => simp [entO, hp, Value.isStr] at hi
        simp only [hex]
        refine wpAny_bind (wpAny_dictEpoch D.ho D.hd (wpAny_bind (eqs (List.mem_of_getElem? hy) (wpAny_bind (wpAny_dictEpoch D.ho D.hd ?_)))))
        show wpAny _ _ (if (ep != ep) = true then _ else _) _ E _
        rw [if_neg (by simp), decide_eq_true e]
        exact wpAny_bind (wpAny_rule (wpAny_pure (hsome i y.2 (by rw [hy, ← e]))))
    · rw [if_neg hstr]
      by_cases hall : ((Value.str x t :: P.filterMap fun i => es[i]?.map (·.key)).all carriedByValue) = true
      · rw [if_pos hall]; exact walk
      · rw [if_neg hall]
        by_cases hone : ((P.filterMap fun i => es[i]?.map (·.key)) == [Value.str x t]) = true
        · rw [if_pos hone]; exact wpAny_bind (wpAny_pure (far false rfl))
        · rw [if_neg hone]; exact wpAny_bind (silent hk stk (far false rfl))
  case tup a o' vs n ks h1 h2 h3 h4 =>
    subst hk1'
    have hany : ¬ (es.any fun e => e.key == Value.ref a && e.hash != (NestedKey.tup ks).hash w) = true := by
      rw [← Array.any_toList, List.any_eq_true, D.he]
      intro ⟨e, hin, hc⟩
      obtain ⟨y, hy, rfl⟩ := List.mem_map.mp hin
      simp only [entO, Bool.and_eq_true, beq_iff_eq, bne_iff_ne, ne_eq] at hc
      have z := (hl y hy).1
      rw [hc.1] at z
      exact hc.2 (by rw [NestedIs.inj _ _ _ z hk.1])
    rw [if_neg (by simp [carriedByValue]), if_neg hany]
    by_cases hone : ((P.filterMap fun i => es[i]?.map (·.key)) == [Value.ref a]) = true
    · rw [if_pos hone]; exact wpAny_bind (wpAny_pure (far false rfl))
    · rw [if_neg hone]; exact wpAny_bind (silent hk stk (far false rfl))

/-! ### the roads: get, set, take out -/
theorem KeyOk.stay {h h' : Heap} {k : Th} {u : Value} {d : Addr} {o : Obj} {es : Array DictEntry} {ep : Nat} (x : KeyOk h k u) (ho : h.get? d = some o) (hd : o.data = .dict es ep) (hs : Heap.SameBut d h h') : KeyOk h' k u :=
  ⟨NestedIs.at (fun b ob vs n hb hc => (hs.2 b (fun e => by subst e; rw [ho] at hb; cases hb; rw [hd] at hc; cases hc)).trans hb) k u x.1, x.2⟩
def DictV (w : World) (h : Heap) (d : Addr) (l : En Value) : Prop := ∃ o es ep, DictAt w h d l o es ep
theorem DictV.typeIs {d : Addr} {l : En Value} (x : DictV w s.heap d l) : s.TypeIs (.ref d) "dict" := let ⟨o, _, _, D⟩ := x; ⟨o, D.ho, D.hc.1⟩
theorem get_any {d : Addr} {u : Value} {l : En Value} {k : Th} {Q : Option Value → Shared → Prop} (hu : A.units + 8 < cLine) (hk : KeyOk s.heap k u) (D : DictV w s.heap d l) (hl : ∀ x ∈ l, KeyOk s.heap x.1 x.2.1)
    (h : Q ((atE l k).map (·.2)) { s with toks := s.toks + k.draws }) : wpAny (model prog w) A (dictGet d u) Q E s := by
  obtain ⟨o, es, ep, D⟩ := D
  unfold dictGet
  try with_reducible refine wpAny_holding ?_
  refine wpAny_bind (pyHash_key k u A s _ hk.1 (by have := hk.2; omega) (wpAny_bind (find_any (s := { s with toks := s.toks + k.draws }) hu hk D hl ?_ ?_)))
  · intro hno
    rw [atE_none.mpr hno] at h
    exact wpAny_pure h
  · intro j p hj
    rw [mem_atE D.hn (List.mem_of_getElem? hj)] at h
    refine wpAny_bind (wpAny_dictEntries (s := { s with toks := s.toks + k.draws }) D.ho D.hd ?_)
    rw [D.at_ j, hj]
    exact wpAny_pure h
theorem set_any {d : Addr} {u v : Value} {l : En Value} {k : Th} {Q : Unit → Shared → Prop} (hu : A.units + 8 < cLine) (hk : KeyOk s.heap k u) (D : DictV w s.heap d l) (hl : ∀ x ∈ l, KeyOk s.heap x.1 x.2.1) (hz : l.length ≤ sizeLine)
    (h : ∀ h', DictV w h' d (stE l k u v) → Heap.SameBut d s.heap h' → Q () { s with heap := h', toks := s.toks + k.draws }) : wpAny (model prog w) A (dictSet d u v) Q E s := by
  obtain ⟨o, es, ep, D⟩ := D
  unfold dictSet
  try with_reducible refine wpAny_holding ?_
  refine wpAny_bind (pyHash_key k u A s _ hk.1 (by have := hk.2; omega) ?_)
  unfold dictSetHashed
  try with_reducible refine wpAny_holding ?_
  refine wpAny_bind (find_any (s := { s with toks := s.toks + k.draws }) hu hk D hl ?_ ?_)
  · intro hno
    have e0 := atE_none.mpr hno
    refine wpAny_bind (wpAny_rule (wpAny_updateDictKeys (hz := by rw [D.size]; exact hz) (s := { s with toks := s.toks + k.draws }) D.ho D.hd (h _ ?_ (Heap.SameBut.update ..))))
    have e1 : stE l k u v = l ++ [(k, u, v)] := by unfold stE; rw [e0]; rfl
    refine ⟨_, _, ep + 1, Heap.get?_update_self _ D.ho (Obj.isFreed_of_dict (Obj.data_mapDictKeys D.hd _)), D.hc.mapDictKeys _, Obj.data_mapDictKeys D.hd _, ?_, stE_keys l k u v D.hn⟩
    rw [e1, Array.toList_push, D.he, List.map_append]
    rfl
  · intro j p hj
    have e0 := mem_atE D.hn (List.mem_of_getElem? hj)
    refine wpAny_bind (wpAny_rule (wpAny_bind (wpAny_updateDict (s := { s with toks := s.toks + k.draws }) D.ho D.hd (wpAny_point (h _ ?_ (Heap.SameBut.update ..))))))
    have e1 : stE l k u v = l.map (fun x => if x.1 = k then (x.1, x.2.1, v) else x) := by unfold stE; rw [e0]; rfl
    refine ⟨_, _, ep, Heap.get?_update_self _ D.ho (Obj.isFreed_of_dict (Obj.data_mapDict D.hd _)), D.hc.mapDict _, Obj.data_mapDict D.hd _, ?_, stE_keys l k u v D.hn⟩
    rw [e1]
    have key : ∀ (l : En Value) (j : Nat) (p : Value × Value), (l.map (·.1)).Nodup → l[j]? = some (k, p) → (l.map (entO w)).modify j (fun e => { e with val := v }) = (l.map (fun x => if x.1 = k then (x.1, x.2.1, v) else x)).map (entO w) := by
      intro l
      induction l with
      | nil => intro j p _ hj; simp at hj
      | cons x l ih =>
        intro j p hn hj
        rw [List.map_cons, List.nodup_cons] at hn
        cases j with
        | zero =>
          simp only [List.getElem?_cons_zero, Option.some.injEq] at hj
          subst hj
          have same : l.map (fun x => if x.1 = k then (x.1, x.2.1, v) else x) = l := by
            have : l.map (fun x => if x.1 = k then (x.1, x.2.1, v) else x) = l.map id := List.map_congr_left fun y hy => by
              have hne : ¬ y.1 = k := fun e => hn.1 (List.mem_map.mpr ⟨y, hy, e⟩)
              rw [if_neg hne]; rfl
            rw [this, List.map_id]
          rw [List.map_cons, List.map_cons, same, List.map_cons]
          simp [entO]
        | succ j =>
          simp only [List.getElem?_cons_succ] at hj
          have hne : ¬ x.1 = k := fun e => hn.1 (e ▸ List.mem_map.mpr ⟨_, List.mem_of_getElem? hj, rfl⟩)
          rw [List.map_cons, List.map_cons, List.map_cons, if_neg hne, ← ih j p hn.2 hj]
          rfl
    have := key l j p D.hn hj
    rw [← D.he] at this
    obtain ⟨es⟩ := es
    simpa using this
theorem take_any {d : Addr} {u : Value} {l : En Value} {k : Th} {p : Value × Value} {Q : Option DictEntry → Shared → Prop} (hu : A.units + 8 < cLine) (hk : KeyOk s.heap k u) (D : DictV w s.heap d l) (hl : ∀ x ∈ l, KeyOk s.heap x.1 x.2.1) (hz : l.length ≤ sizeLine) (hp : atE l k = some p)
    (h : ∀ e h', e.val = p.2 → DictV w h' d (drE l k) → Heap.SameBut d s.heap h' → Q (some e) { s with heap := h', toks := s.toks + k.draws }) : wpAny (model prog w) A (Builtin.Dict.takeOut d u) Q E s := by
  obtain ⟨o, es, ep, D⟩ := D
  unfold Builtin.Dict.takeOut
  try with_reducible refine wpAny_holding ?_
  refine wpAny_bind (pyHash_key k u A s _ hk.1 (by have := hk.2; omega) ?_)
  refine wpAny_bind (find_any (s := { s with toks := s.toks + k.draws }) hu hk D hl ?_ ?_)
  · intro hno
    have := atE_none.mpr hno
    rw [hp] at this
    cases this
  · intro j q hj
    have e0 := mem_atE D.hn (List.mem_of_getElem? hj)
    rw [hp] at e0
    cases e0
    refine wpAny_bind (wpAny_dictEntries (s := { s with toks := s.toks + k.draws }) D.ho D.hd ?_)
    rw [D.at_ j, hj]
    refine wpAny_bind (wpAny_updateDictKeys (hz := by rw [D.size]; exact hz) (s := { s with toks := s.toks + k.draws }) D.ho D.hd (wpAny_pure (h _ _ rfl ?_ (Heap.SameBut.update ..))))
    refine ⟨_, _, ep + 1, Heap.get?_update_self _ D.ho (Obj.isFreed_of_dict (Obj.data_mapDictKeys D.hd _)), D.hc.mapDictKeys _, Obj.data_mapDictKeys D.hd _, ?_, drE_keys l k D.hn⟩
    have key : ∀ (l : En Value) (j : Nat) (p : Value × Value), (l.map (·.1)).Nodup → l[j]? = some (k, p) → l.eraseIdx j = drE l k := by
      intro l
      induction l with
      | nil => intro j p _ hj; simp at hj
      | cons x l ih =>
        intro j p hn hj
        rw [List.map_cons, List.nodup_cons] at hn
        cases j with
        | zero =>
          simp only [List.getElem?_cons_zero, Option.some.injEq] at hj
          subst hj
          have same : l.filter (fun x => decide (x.1 ≠ k)) = l := List.filter_eq_self.mpr fun y hy => decide_eq_true fun e => hn.1 (List.mem_map.mpr ⟨y, hy, e⟩)
          unfold drE
          rw [List.eraseIdx_cons_zero, List.filter_cons]
          rw [if_neg (by simp), same]
        | succ j =>
          simp only [List.getElem?_cons_succ] at hj
          have hne : x.1 ≠ k := fun e => hn.1 (e ▸ List.mem_map.mpr ⟨_, List.mem_of_getElem? hj, rfl⟩)
          have := ih j p hn.2 hj
          unfold drE at this ⊢
          rw [List.eraseIdx_cons_succ, List.filter_cons, if_pos (decide_eq_true hne), this]
    have e1 := key l j p D.hn hj
    have e2 : (l.eraseIdx j).map (entO w) = (l.map (entO w)).eraseIdx j := map_eraseIdx _ _ _
    rw [← e1, e2, ← D.he]
    obtain ⟨es⟩ := es
    simp
end
end Dk
set_option Elab.async false
set_option linter.all false
set_option maxRecDepth 100000
set_option maxHeartbeats 4000000
/-! Rules for the dict with thing keys. -/
namespace Dk
open PySem Pv
open Sem (wp)
section
variable {prog : Program} {w : World} {A : Around} {E : Value → Shared → Prop} {s : Shared} {d : Addr} {u v : Value} {l : En Value} {k : Th}
theorem in_any {Q : Value → Shared → Prop} (hu : A.units + 1 + 8 < cLine) (hk : KeyOk s.heap k u) (hd : (d == sysModules) = false) (D : DictV w s.heap d l) (hl : ∀ x ∈ l, KeyOk s.heap x.1 x.2.1)
    (h : Q (.bool (atE l k).isSome) { s with toks := s.toks + k.draws }) : wpAny (model prog w) A (compareOp .In u (.ref d)) Q E s := by
  show wpAny _ _ (do return .bool (← contains (.ref d) u)) Q E s
  refine wpAny_bind ?_
  unfold contains
  try with_reducible refine wpAny_holding ?_
  refine wpAny_bind (wpAny_specialOf D.typeIs slot_dict_contains.lookup ?_)
  show wpAny _ _ (if (some (Value.builtin "dict.__contains__") == some Value.none) = true then _ else _) _ E s
  rw [if_neg (by rw [beq_builtin_none]; exact Bool.false_ne_true)]
  refine wpAny_bind (wpAny_callSpecialUnlessNone?_slot (name := Str.ofString "__contains__") D.typeIs slot_dict_contains
    (wpAny_call_entry slot_dict_contains D.typeIs entry_dict_contains ?_ (args_dict_contains _ _)))
  show wpAny _ _ (dictGet d u >>= _) _ _ s
  refine wpAny_bind (get_any (A := A.in1) (by exact hu) hk D hl ?_)
  cases hf : atE l k with
  | some p =>
    rw [hf] at h
    show wpAny _ _ (ret (.bool true)) _ _ _
    exact wpAny_pure ⟨_, rfl, wpAny_truthy_bool (wpAny_pure h)⟩
  | none =>
    rw [hf] at h
    show wpAny _ _ (Builtin.Dict.pendingKey? d u >>= _) _ _ _
    exact wpAny_bind (wpAny_pendingKey_other hd (wpAny_pure ⟨_, rfl, wpAny_truthy_bool (wpAny_pure h)⟩))
theorem item_any {p : Value × Value} {Q : Value → Shared → Prop} (hu : A.units + 1 + 8 < cLine) (hk : KeyOk s.heap k u) (D : DictV w s.heap d l) (hl : ∀ x ∈ l, KeyOk s.heap x.1 x.2.1) (hp : atE l k = some p)
    (h : Q p.2 { s with toks := s.toks + k.draws }) : wpAny (model prog w) A (getItem (.ref d) u) Q E s := by
  unfold getItem
  try with_reducible refine wpAny_holding ?_
  refine wpAny_bind (wpAny_sequenceKey D.typeIs (by decide) ?_)
  refine wpAny_bind (wpAny_callSpecial?_slot (name := Str.ofString "__getitem__") D.typeIs slot_dict_getitem
    (wpAny_call_entry slot_dict_getitem D.typeIs entry_dict_getitem ?_ (args_dict_getitem _ _)))
  show wpAny _ _ (dictGet d u >>= _) _ _ s
  refine wpAny_bind (get_any (A := A.in1) (by exact hu) hk D hl ?_)
  rw [hp]
  exact wpAny_pure ⟨p.2, rfl, wpAny_pure h⟩
theorem store_any {Q : Unit → Shared → Prop} (hu : A.units + 1 + 8 < cLine) (hk : KeyOk s.heap k u) (D : DictV w s.heap d l) (hl : ∀ x ∈ l, KeyOk s.heap x.1 x.2.1) (hz : l.length ≤ sizeLine)
    (h : ∀ h', DictV w h' d (stE l k u v) → Heap.SameBut d s.heap h' → Q () { s with heap := h', toks := s.toks + k.draws }) : wpAny (model prog w) A (setItem (.ref d) u v) Q E s := by
  unfold setItem
  try with_reducible refine wpAny_holding ?_
  refine wpAny_bind (wpAny_sequenceKey D.typeIs (by decide) ?_)
  refine wpAny_bind (wpAny_callSpecial?_slot (name := Str.ofString "__setitem__") D.typeIs slot_dict_setitem
    (wpAny_call_entry slot_dict_setitem D.typeIs entry_dict_setitem ?_ (args_dict_setitem _ _ _)))
  show wpAny _ _ (Builtin.Dict.notOrdered "__setitem__" ⟨[.ref d, u, v], []⟩ >>= _) _ _ s
  refine wpAny_bind (wpAny_notOrdered_dict D.typeIs ?_)
  show wpAny _ _ (dictSet d u v >>= _) _ _ s
  exact wpAny_bind (set_any (A := A.in1) (by exact hu) hk D hl hz fun h' D' hs => wpAny_pure ⟨.none, rfl, wpAny_pure (h h' D' hs)⟩)
theorem pop_any {p : Value × Value} {Q : Value → Shared → Prop} (hu : A.units + 1 + 8 < cLine) (hk : KeyOk s.heap k u) (D : DictV w s.heap d l) (hl : ∀ x ∈ l, KeyOk s.heap x.1 x.2.1) (hz : l.length ≤ sizeLine) (hp : atE l k = some p)
    (h : ∀ h', DictV w h' d (drE l k) → Heap.SameBut d s.heap h' → Q p.2 { s with heap := h', toks := s.toks + k.draws }) : wpAny (model prog w) A (call (.builtin "dict.pop") [.ref d, u]) Q E s := by
  have M : MeetsIn prog w (Builtin.«dict.pop» ⟨[.ref d, u], []⟩) (fun A R s => A.in1.units + 8 < cLine ∧ KeyOk s.heap k u ∧ DictV w s.heap d l ∧ (∀ x ∈ l, KeyOk s.heap x.1 x.2.1) ∧ l.length ≤ sizeLine ∧ atE l k = some p ∧
      (∀ h', DictV w h' d (drE l k) → Heap.SameBut d s.heap h' → R (.ok (.ret p.2)) { s with heap := h', toks := s.toks + k.draws })) :=
    .of_wp fun A R s ⟨hu, hk, D, hl, hz, hp, h⟩ => by
      have D0 := D
      obtain ⟨o, es, ep, D1⟩ := D0
      unfold Builtin.«dict.pop»
      refine wpAny_bind ?_
      unfold Builtin.Dict.keyAndDefault
      refine wpAny_bind (wpAny_notOrdered_dict D.typeIs ?_)
      show wpAny _ _ (pure (d, u, none)) _ _ s
      refine wpAny_pure ?_
      have rest : wpAny (model prog w) A.in1 (Builtin.Dict.takeOut d u) (fun r s' => ∃ e : DictEntry, r = some e ∧ e.val = p.2 ∧ ∃ h', s' = { s with heap := h', toks := s.toks + k.draws } ∧ DictV w h' d (drE l k) ∧ Heap.SameBut d s.heap h') (fun v s' => R (.error v) s') s :=
        take_any hu hk D hl hz hp fun e h' he D' hs => ⟨e, rfl, he, h', rfl, D', hs⟩
      have fin : ∀ {g : Option DictEntry → Sem Value}, True := fun {_} => trivial
      cases hkp : (keyPart u).isSome with
      | true =>
        simp only [hkp, if_true]
        refine wpAny_bind (wpAny_pure ?_)
        simp only [Bool.false_eq_true, if_false]
        refine wpAny_bind (wpAny_mono rest (fun r s' q => ?_) fun _ _ x => x)
        obtain ⟨e, rfl, he, h', rfl, D', hs⟩ := q
        simp only [Option.isNone_some, Bool.false_eq_true, if_false]
        exact wpAny_bind (wpAny_letGo (wpAny_pure ⟨e.val, rfl, by rw [he]; exact h h' D' hs⟩))
      | false =>
        simp only [hkp, Bool.false_eq_true, if_false]
        refine wpAny_bind (wpAny_dictEntries D1.ho D1.hd (wpAny_bind (wpAny_pure ?_)))
        have hemp : ¬ es.isEmpty = true := fun e => by
          have h0 : es.size = 0 := by simpa using e
          rw [D1.size] at h0
          rw [List.length_eq_zero_iff.mp h0] at hp
          cases hp
        rw [if_neg hemp]
        refine wpAny_bind (wpAny_mono rest (fun r s' q => ?_) fun _ _ x => x)
        obtain ⟨e, rfl, he, h', rfl, D', hs⟩ := q
        simp only [Option.isNone_some, Bool.false_eq_true, if_false]
        exact wpAny_bind (wpAny_letGo (wpAny_pure ⟨e.val, rfl, by rw [he]; exact h h' D' hs⟩))
  exact call_meetsIn F.slot_dict_pop D.typeIs F.entry_dict_pop (F.args_dict_pop_2 _ _) M ⟨hu, hk, D, hl, hz, hp, h⟩
end

/-! ### tracked -/
open L2 Ph PySem.Spec PyProof.Rows
/-- the dict d with these entries -/
def plainO (w : World) (d : Addr) (l : En Value) : HO := .ext fun h => (d == sysModules) = false ∧ DictV w h d l
structure PlainAt (w : World) (H : Hp) (d : Addr) (l : En Value) : Prop where
  at_ : H d = some (plainO w d l)
  keys : ∀ x ∈ l, x.1.depth ≤ 8 ∧ ∃ kv, RelV kv x.2.1 ∧ IsT H kv x.1
  vals : ∀ x ∈ l, ∃ vv t, RelV vv x.2.2 ∧ IsT H vv t ∧ Ok 3 t
  size : l.length ≤ sizeLine
theorem PlainAt.up {w : World} {H H' : Hp} {d : Addr} {l : En Value} (x : PlainAt w H d l) (e : Tups H H') (h : H' d = some (plainO w d l)) : PlainAt w H' d l where
  at_ := h
  keys := fun y hy => by
    obtain ⟨a, kv, r, b⟩ := x.keys y hy
    exact ⟨a, kv, r, b.ext e⟩
  vals := fun y hy => by
    obtain ⟨vv, t, r, b, c⟩ := x.vals y hy
    exact ⟨vv, t, r, b.ext e, c⟩
  size := x.size
theorem tups_upd {w : World} {H : Hp} {d : Addr} {l l' : En Value} (h : H d = some (plainO w d l)) : Tups H (upd H d (plainO w d l')) := fun a xs e => by
  rw [upd_ne (fun q => by subst q; rw [h] at e; cases e)]
  exact e
theorem PlainAt.put {w : World} {H : Hp} {d : Addr} {l : En Value} {k t : Th} {a v : Value} {ka va : V} (x : PlainAt w H d l) (hk : k.depth ≤ 8) (rk : RelV ka a) (tk : IsT H ka k) (rv : RelV va v) (tv : IsT H va t) (ht : Ok 3 t) (hz : l.length < sizeLine) :
    PlainAt w (upd H d (plainO w d (stE l k a v))) d (stE l k a v) where
  at_ := upd_same
  keys := fun y hy => by
    have e := tups_upd (l' := stE l k a v) x.at_
    rcases stE_mem hy with ⟨z, hz, e1, e2, _⟩ | rfl
    · obtain ⟨q1, kv, q2, q3⟩ := x.keys z hz
      rw [e1, e2]
      exact ⟨q1, kv, q2, q3.ext e⟩
    · exact ⟨hk, ka, rk, tk.ext e⟩
  vals := fun y hy => by
    have e := tups_upd (l' := stE l k a v) x.at_
    rcases stE_mem hy with ⟨z, hz, e1, e2, e3 | e3⟩ | rfl
    · obtain ⟨vv, t', q1, q2, q3⟩ := x.vals z hz
      rw [e3]
      exact ⟨vv, t', q1, q2.ext e, q3⟩
    · rw [e3]
      exact ⟨va, t, rv, tv.ext e, ht⟩
    · exact ⟨va, t, rv, tv.ext e, ht⟩
  size := by have := stE_length l k a v; omega
theorem PlainAt.drop {w : World} {H : Hp} {d : Addr} {l : En Value} {k : Th} (x : PlainAt w H d l) : PlainAt w (upd H d (plainO w d (drE l k))) d (drE l k) where
  at_ := upd_same
  keys := fun y hy => by
    obtain ⟨q1, kv, q2, q3⟩ := x.keys y (List.mem_filter.mp hy).1
    exact ⟨q1, kv, q2, q3.ext (tups_upd x.at_)⟩
  vals := fun y hy => by
    obtain ⟨vv, t, q1, q2, q3⟩ := x.vals y (List.mem_filter.mp hy).1
    exact ⟨vv, t, q1, q2.ext (tups_upd x.at_), q3⟩
  size := by have := drE_length l k; have := x.size; omega

section
variable {X : Cx} {pins : List (Addr × Obj)} {σ : L2.St} {H : Hp} {s : Shared} {a : Addr} {l : En Value}
theorem plain_rd (I : Inv X pins σ H s) (e : H a = some (plainO X.w a l)) : (a == sysModules) = false ∧ DictV X.w s.heap a l := (I.hok a _ e).1
theorem plain_ok {P : Program} {w : World} {H' : Hp} {h' : Heap} (hd : (a == sysModules) = false) (D : DictV w h' a l) : ObjOk P w H' h' a (plainO w a l) := by
  refine ⟨⟨hd, D⟩, ?_, ?_⟩
  · obtain ⟨o, _, _, D⟩ := D
    exact ⟨o, D.ho⟩
  · intro h1 h2 ⟨q1, o, es, ep, D⟩ k
    exact ⟨q1, o, es, ep, k _ D.ho, D.hc, D.hd, D.he, D.hn⟩
theorem plain_keys (I : Inv X pins σ H s) (x : PlainAt X.w H a l) : ∀ y ∈ l, KeyOk s.heap y.1 y.2.1 := fun y hy => by
  obtain ⟨q1, kv, q2, q3⟩ := x.keys y hy
  exact ⟨q3.nested I q2, q1⟩
end
/-- {} of that kind -/
def tPNew (w : World) : TE := fun _ H Q => ∀ p, H p = none → Q (.ref p) (upd H p (plainO w p []))
def tPIn (w : World) (ty td : TE) : TE := fun σ H Q => ty σ H fun y H1 => td σ H1 fun x H2 => ∃ a l k, x = .ref a ∧ PlainAt w H2 a l ∧ IsT H2 y k ∧ k.depth ≤ 8 ∧ Q (.bl (atE l k).isSome) H2
def tPGet (w : World) (td ty : TE) : TE := fun σ H Q => td σ H fun x H1 => ty σ H1 fun y H2 => ∃ a l k, x = .ref a ∧ PlainAt w H2 a l ∧ IsT H2 y k ∧ k.depth ≤ 8 ∧ (atE l k).isSome = true ∧
  ∀ v u, (∃ b, atE l k = some (b, u)) → RelV v u → Q v H2
def sPPut (w : World) (td ty tv : TE) : TS := fun D σ H => tv σ H fun v H1 => td σ H1 fun x H2 => ty σ H2 fun y H3 => ∃ a l k, x = .ref a ∧ PlainAt w H3 a l ∧ IsT H3 y k ∧ k.depth ≤ 8 ∧ l.length < sizeLine ∧
  ∀ ku u, RelV y ku → RelV v u → D.nx σ (upd H3 a (plainO w a (stE l k ku u)))
def tPPop (w : World) (td ty : TE) : TE := fun σ H Q => td σ H fun x H1 => ∃ a, x = .ref a ∧ (∃ l, H1 a = some (plainO w a l)) ∧ ty σ H1 fun y H2 => ∃ l k, PlainAt w H2 a l ∧ IsT H2 y k ∧ k.depth ≤ 8 ∧ (atE l k).isSome = true ∧
  ∀ v u, (∃ b, atE l k = some (b, u)) → RelV v u → Q v (upd H2 a (plainO w a (drE l k)))
section
variable {X : Cx} {o i e value : Expr} {pos pos' apos cpos : Pos} {td ty tv : TE}
theorem pe_pnew : PE X (.Dict [] [] pos) (tPNew X.w) := ⟨fun pins s σ H Q I h => by
  refine wpAny_Dict_empty ⟨.ref s.heap.objs.size, _, I.laid (a := s.heap.objs.size) (o := plainO X.w s.heap.objs.size []) (t' := s.toks) (fun _ _ q => Heap.get?_push_of_some _ q) (Nat.le_refl _) (plain_ok ?_ ?_), rfl, h _ (I.hok.fresh (Nat.le_refl _))⟩
  · exact beq_eq_false_iff_ne.mpr (Ne.symm (Nat.ne_of_lt I.big))
  · exact ⟨_, #[], 0, Heap.get?_push_size _ rfl, ⟨rfl, rfl, rfl⟩, rfl, rfl, List.nodup_nil⟩⟩
theorem pc_pin (hu : X.A.units + 1 + 8 < cLine) (hi : PE X i ty) (ho : PE X o td) : PC X .In i o (tPIn X.w ty td) := by
  refine ⟨fun pins s σ H Q I h => ?_⟩
  refine thn (hi.run pins s σ H _ I h) fun iv s1 ⟨y, H1, I1, ry, q1⟩ => thn (ho.run pins s1 σ H1 _ I1 q1) fun u s2 ⟨x, H2, I2, rx, a, l, k, ex, P, hk, hd, q2⟩ => ?_
  subst ex
  obtain rfl : u = Value.ref a := rx
  obtain ⟨z, D⟩ := plain_rd I2 P.at_
  exact in_any hu ⟨hk.nested I2 ry, hd⟩ z D (plain_keys I2 P) ⟨.bl _, H2, I2.tok _, rfl, q2⟩
theorem pe_pget (hu : X.A.units + 1 + 8 < cLine) (ho : PE X o td) (hi : PE X i ty) (hs : NoSl i) (hV : ∀ {H a l k b u}, PlainAt X.w H a l → atE l k = some (b, u) → ∃ v, RelV v u := by
    intro H a l k b u P e
    obtain ⟨v, _, r, _⟩ := P.vals _ (atE_mem e)
    exact ⟨v, r⟩) : PE X (.Subscript o i pos) (tPGet X.w td ty) := by
  refine ⟨fun pins s σ H Q I h => ?_⟩
  refine subD_of PySem.F.slot_dict_getitem.lookup hs (thn (ho.run pins s σ H _ I h) fun u s1 ⟨x, H1, I1, rx, q1⟩ => thn (hi.run pins s1 σ H1 _ I1 q1) fun iv s2 ⟨y, H2, I2, ry, a, l, k, ex, P, hk, hd, hat, q2⟩ => ?_)
  subst ex
  obtain rfl : u = Value.ref a := rx
  obtain ⟨z, D⟩ := plain_rd I2 P.at_
  obtain ⟨⟨b, u⟩, hp⟩ := Option.isSome_iff_exists.mp hat
  obtain ⟨v, rv⟩ := hV P hp
  exact ⟨D.typeIs, item_any hu ⟨hk.nested I2 ry, hd⟩ D (plain_keys I2 P) hp ⟨v, H2, I2.tok _, rv, q2 v u ⟨b, hp⟩ rv⟩⟩
theorem ps_pput (hu : X.A.units + 1 + 8 < cLine) (ho : PE X o td) (hi : PE X i ty) (hv : PE X value tv) (hs : swapsWith value (some (.Subscript o i pos')) pos.line X.env = pure false) :
    PS X (.Assign [.Subscript o i pos'] value pos) (sPPut X.w td ty tv) := by
  refine ⟨fun pins s σ H D I h => ?_⟩
  refine wpAny_Assign_Subscript (thn (hv.run pins s σ H _ I h) fun r s1 ⟨v, H1, I1, rv, q1⟩ => thn (ho.run pins s1 σ H1 _ I1 q1) fun u s2 ⟨x, H2, I2, rx, q2⟩ => thn (hi.run pins s2 σ H2 _ I2 q2) fun iv s3 ⟨y, H3, I3, ry, a, l, k, ex, P, hk, hd, hz, q3⟩ => ?_) hs
  subst ex
  obtain rfl : u = Value.ref a := rx
  obtain ⟨z, DV⟩ := plain_rd I3 P.at_
  refine store_any hu ⟨hk.nested I3 ry, hd⟩ DV (plain_keys I3 P) P.size fun h' D' hs' => ⟨σ, _, ?_, q3 iv r ry rv⟩
  obtain ⟨o', _, _, D2⟩ := id D'
  exact d_write I3 (by rw [P.at_]; exact True.intro) hs' ⟨o', D2.ho⟩ (plain_ok z D')
theorem pe_ppop (hu : X.A.units + 1 + 8 < cLine) (ho : PE X o td) (he : PE X e ty) (m : M1 X o "pop" apos e cpos) : PE X (.Call (.Attribute o "pop" apos) [e] [] cpos) (tPPop X.w td ty) := by
  refine ⟨fun pins s σ H Q I h => ?_⟩
  refine wpAny_Call_method m.base m.few m.line PySem.F.plainAttrs_dict PySem.F.slot_dict_pop PySem.F.type_dict_pop (thn (ho.run pins s σ H _ I h) fun u s1 ⟨x, H1, I1, rx, a, ex, ⟨l0, e0⟩, q1⟩ => ?_)
  subst ex
  obtain rfl : u = Value.ref a := rx
  obtain ⟨z0, D0⟩ := plain_rd I1 e0
  refine ⟨D0.typeIs, fun b q => ?_, ?_⟩
  · cases q
    obtain ⟨ob, _, _, D1⟩ := D0
    exact ⟨ob, D1.ho, D1.hc.2.1⟩
  rw [m.trees]
  refine Calls.callWith_builtin rfl (Calls.evalArgs_plain (Calls.spliced_cons (thn (he.run pins s1 σ H1 _ I1 q1) fun iv s2 ⟨y, H2, I2, ry, l, k, P, hk, hd, hat, q2⟩ => Calls.spliced_nil ?_)))
  obtain ⟨z, D⟩ := plain_rd I2 P.at_
  obtain ⟨⟨b, u⟩, hp⟩ := Option.isSome_iff_exists.mp hat
  obtain ⟨v, _, rv, _⟩ := P.vals _ (atE_mem hp)
  refine pop_any hu ⟨hk.nested I2 ry, hd⟩ D (plain_keys I2 P) P.size hp fun h' D' hs' => ⟨v, _, ?_, rv, q2 v u ⟨b, hp⟩ rv⟩
  obtain ⟨o', _, _, D2⟩ := id D'
  exact d_write I2 (by rw [P.at_]; exact True.intro) hs' ⟨o', D2.ho⟩ (plain_ok z D')
end
end Dk
set_option Elab.async false
set_option linter.all false
set_option maxRecDepth 100000
set_option maxHeartbeats 4000000
/-! A list comprehension whose turns may raise (by calls). -/
namespace Cmx
open PySem PySem.Spec PyProof.Rows L2
/-- a comprehension's block, with a wish -/
abbrev blkX (X : Cx) (s : Shared) (H : Hp) (scope : Scope) (cenv : Env) (fp : List Addr) (xe : Value → Shared → Prop) : Cx := (X.blk s H scope cenv fp).wish xe
section
variable {X : Cx} {pins : List (Addr × Obj)} {σ : L2.St} {W : WX} {E : XK}
/-- an exception of a call within the block: the block is let go, the exception goes on -/
theorem block_fails (hs : X.stack = X.env :: X.outer) (hf : X.env.frame = some X.env.locals) (tk : Takes X W) (hW : ∀ cls d H, E cls d H → W cls d σ H)
    {s3 s s' : Shared} {H3 H : Hp} {scope : Scope} {cl : List (Str × Addr)} {fp : List Addr} {pn : List (Addr × Obj)} {σ' : L2.St} {e : Value} (I3 : Inv X pins σ H3 s3)
    (f3 : ∀ b ∈ fp, FpOk X pins H3 b ∧ b < s3.heap.objs.size)
    (I : Inv (X.blk s3 H3 scope (compEnvC scope cl s3.heap.objs.size X.env) fp) pn σ' H s) (c : CX X.prog X.w X.stack H s E e s') :
    notedBy (model X.prog X.w) X.A (compEnvC scope cl s3.heap.objs.size X.env) (CompFails (model X.prog X.w) X.A X.xe (compEnvC scope cl s3.heap.objs.size X.env)) e s' := by
  obtain ⟨a, B, H', cls, d, rfl, fl, hok, ub, na, os, ag, hE⟩ := c
  have hfr : X.A.frames = some (X.env :: X.outer) := by rw [I3.ok.frames, hs]
  show wpAny (model X.prog X.w) X.A (noteFrame (.ref a) X.env) _ (CompFails (model X.prog X.w) X.A X.xe (compEnvC scope cl s3.heap.objs.size X.env)) s'
  rw [hs] at fl
  refine HandSPX.looks_onZ Zc.steady hfr hf fl fun h1 hh up1 => ?_
  -- the block's names
  have Cn : s3.heap.objs.size ∉ frs X.stack := fun hm => by
    obtain ⟨_, o, ho, _⟩ := I3.stack.mem hm
    exact absurd (Heap.lt_size ho) (Nat.lt_irrefl _)
  obtain ⟨m, ⟨oC, es, ep, hoC, hdC, hrC⟩, _⟩ := I.loc
  have hoC : s.heap.get? s3.heap.objs.size = some oC := hoC
  have hnC : H s3.heap.objs.size = none := I.free
  have hBC : B.get? s3.heap.objs.size = some oC := ub.keep _ _ hoC hnC Cn
  have nC' : H' s3.heap.objs.size = none := ub.free _ _ hoC hnC
  refine ⟨m, ⟨oC, es, ep, hh.1 _ _ hBC, hdC, hrC⟩, fun h2 m' hn2 sb => ?_⟩
  have sb : Heap.SameBut s3.heap.objs.size h1 h2 := sb
  -- the ground without the block
  obtain ⟨B', b1, b2⟩ := restrict B fun b => decide (b ≠ s3.heap.objs.size)
  have bk : ∀ b, b ≠ s3.heap.objs.size → B'.get? b = B.get? b := fun b hb => b1 b (decide_eq_true hb)
  have be : B'.get? s3.heap.objs.size = none := b2 _ (by simp)
  have bB : ∀ b o, B'.get? b = some o → b ≠ s3.heap.objs.size ∧ B.get? b = some o := fun b o e => by
    by_cases hb : b = s3.heap.objs.size
    · rw [hb, be] at e; cases e
    · exact ⟨hb, (bk b hb).symm.trans e⟩
  have h12 : ∀ b, b ≠ s3.heap.objs.size → h2.get? b = h1.get? b := fun b hb => sb.2 b hb
  have hh2 : HandSPX.HeldZ B' (X.env :: X.outer) a (Zc cls d) X.env.locals h2 := by
    obtain ⟨g1, g2, g3, oe, vs, T, oT, ts, he, hz, hd, k1, nT, hTe, hT, hdT, k3⟩ := hh
    have naC : a ≠ s3.heap.objs.size := fun z => by
      have q := g1 _ _ hBC
      rw [← z, he] at q
      cases q
      rw [hdC] at hd
      cases hd
    have nTC : T ≠ s3.heap.objs.size := fun z => by rw [z, hBC] at nT; cases nT
    refine ⟨fun b o e => ?_, ?_, ?_, oe, vs, T, oT, ts, (h12 a naC).trans he, hz, hd, k1, ?_, hTe, (h12 T nTC).trans hT, hdT, k3⟩
    · obtain ⟨n, e'⟩ := bB b o e
      exact (h12 b n).trans (g1 b o e')
    · rw [bk a naC]; exact g2
    · have g3' : h2.FunFrames B (X.env :: X.outer) := by
        have all : ∀ (l : List Env), (∀ b ∈ frs l, b ∈ frs X.stack) → h1.FunFrames B l → h2.FunFrames B l := by
          intro l
          induction l with
          | nil => intro _ _; trivial
          | cons env r ih =>
            intro hsub hl
            obtain ⟨hk, ⟨L, o, hfL, hn, ho, hd⟩, hr⟩ := hl
            have hL : L ∈ frs X.stack := hsub L (by unfold frs; rw [List.filterMap_cons, hfL]; exact List.mem_cons_self)
            exact ⟨hk, ⟨L, o, hfL, hn, (h12 L fun z => Cn (z ▸ hL)).trans ho, hd⟩, ih (fun b hb => hsub b (by unfold frs; rw [List.filterMap_cons, hfL]; exact List.mem_cons_of_mem _ hb)) hr⟩
        exact all _ (fun b hb => by rw [hs]; exact hb) g3
      refine funFrames_none g3' fun L hL => ?_
      cases q : B'.get? L with
      | none => rfl
      | some o =>
        have q' := (g3'.mem hL).1
        rw [(bB L o q).2] at q'
        cases q'
    · rw [bk T nTC]; exact nT
  unfold PySem.passOn
  have hh2' := hh2
  obtain ⟨_, _, _, oe, vs, T, oT, ts, he, hz, hd, k1, _⟩ := hh2'
  refine wpAny_bind (wpAny_field (s := { s' with heap := h2 }) he hd k1 ?_)
  rw [if_neg (by simp)]
  have hcf : (compEnvC scope cl s3.heap.objs.size X.env).frame = some X.env.locals := hf
  rw [hcf]
  refine wpAny_bind (HandSPX.setFlight_onZ (s := { s' with heap := h2 }) hh2 fun h4 hh4 up4 => wpAny_throw (tk _ _ ?_))
  -- the state without the exception
  obtain ⟨G, g1, g2⟩ := restrict h4 fun b => (B'.get? b).isSome || decide (b ∈ frs X.stack)
  have st : B'.StaysIn h4 := hh4.1
  have gB : ∀ b o, B'.get? b = some o → G.get? b = some o := fun b o e => by
    rw [g1 b (by simp [e])]
    exact st b o e
  have gF : ∀ b, b ∈ frs X.stack → G.get? b = h4.get? b := fun b hb => g1 b (by simp [hb])
  have og : ∀ b o, G.get? b = some o → h4.get? b = some o ∧ ((B'.get? b).isSome = true ∨ b ∈ frs X.stack) := fun b o e => by
    cases q : ((B'.get? b).isSome || decide (b ∈ frs X.stack)) with
    | false => rw [g2 b q] at e; cases e
    | true =>
      rw [g1 b q] at e
      exact ⟨e, by simpa [Bool.or_eq_true] using q⟩
  have n3 : ∀ {b : Addr} {o : Obj}, s3.heap.get? b = some o → b ≠ s3.heap.objs.size := fun {b o} e => Nat.ne_of_lt (Heap.lt_size e)
  have hokB : HOk X.prog X.w H' B' := fun b o q => (hok b o q).stay (fun c u hc r => by
      rw [bk c fun z => ?_]
      · exact r
      · rcases hc with hc | hc
        · rw [← hc, z, nC'] at q; cases q
        · rw [z, nC'] at hc; cases hc) (fun _ r => r) fun _ _ r => r
  have slots : ∀ b ∈ frs X.stack, ∀ o, s3.heap.get? b = some o → ∃ sl, h4.get? b = some { o with slots := sl } := fun b hb o e => by
    obtain ⟨_, o0, e0, hnf⟩ := I3.stack.mem hb
    rw [e] at e0; cases e0
    have nfp : b ∉ fp := fun z => by
      rcases List.mem_cons.mp (I3.stkSub b hb) with y | y
      · exact (f3 b z).1.2.1 y
      · exact (f3 b z).1.2.2.1 y
    obtain ⟨sl1, e1⟩ := I.base.slot b o e (I3.stkFree b hb) hb nfp
    obtain ⟨sl2, e2⟩ := ub.slot b _ e1 hb
    obtain ⟨sl3, e3⟩ := up1 b _ e2 hnf
    have e3' : h2.get? b = some _ := (h12 b (n3 e)).trans e3
    obtain ⟨sl4, e4⟩ := up4 b _ e3' hnf
    exact ⟨sl4, e4⟩
  have U : Un (frs X.stack) fp H3 H' s3.heap G := {
    keep := fun b o e n hb hx => by
      have e1 := I.base.keep b o e n hb hx
      have e2 := ub.keep b o e1 (I.base.free b o e n hx) hb
      exact gB b o (by rw [bk b (n3 e)]; exact e2)
    slot := fun b o e n hb hx => by
      obtain ⟨sl, q⟩ := slots b hb o e
      exact ⟨sl, by rw [gF b hb]; exact q⟩
    free := fun b o e n hx => by
      by_cases hb : b ∈ frs X.stack
      · obtain ⟨sl, q⟩ := I.base.slot b o e n hb hx
        exact ub.free b _ q (I.base.free b o e n hx)
      · exact ub.free b o (I.base.keep b o e n hb hx) (I.base.free b o e n hx)
    there := fun b o e hx => by
      by_cases hb : b ∈ frs X.stack
      · obtain ⟨sl, q⟩ := slots b hb o e
        exact ⟨_, by rw [gF b hb]; exact q⟩
      · obtain ⟨o1, e1⟩ := I.base.there b o e hx
        obtain ⟨o2, e2⟩ := ub.there b o1 e1 hb
        exact ⟨o2, gB b o2 (by rw [bk b (n3 e)]; exact e2)⟩
    tups := fun b xs e => ub.tups b xs (I.base.tups b xs e)
    frzs := fun b o xs e => ub.frzs b o xs (I.base.frzs b o xs e)
    tbls := fun b ps e => by
      obtain ⟨m1, q1⟩ := I.base.tbls b ps e
      obtain ⟨m2, q2⟩ := ub.tbls b _ q1
      exact ⟨m1 ++ m2, by rw [← Array.append_assoc]; exact q2⟩ }
  have J : Inv X pins σ H' { s' with heap := G } := I3.call' (ch := fp) (os.trans I.os) U (hokB.kept gB) ag fun b hb => ⟨(f3 b hb).1.2.2.2.1, (f3 b hb).1.2.1, (f3 b hb).1.2.2.2.2.1, (f3 b hb).1.2.2.2.2.2⟩
  refine ⟨a, B', { s' with heap := G }, pins, σ, H', cls, d, rfl, J, fun b o e hb => ?_, ?_, .inr (.inr (by rw [hs]; exact hh4)), na, rfl, ag, hW _ _ _ hE⟩
  · obtain ⟨e', h⟩ := og b o e
    rcases h with h | h
    · obtain ⟨o', q⟩ := Option.isSome_iff_exists.mp h
      have z := st b o' q
      rw [e'] at z; cases z
      exact q
    · exact absurd h hb
  · exact Heap.UpToSlots.of_keeps fun b o e => (og b o e).1

/-- what the turns of such a comprehension owe: as tLc -/
theorem lcx_core {pins : List (Addr × Obj)} {s : Shared} {σ : L2.St} {H : Hp} {Q : VK} {elt tg iter : Expr} {ifs : List Expr} {scope : Scope} {own : List (Str × Nat)} {pos pos' : Pos} {wi : TI} {g : TG} {tt : TT} {te : TE} {Qf : Value → Shared → Prop}
    (hs : X.stack = X.env :: X.outer) (hf : X.env.frame = some X.env.locals) (tk : Takes X W) (hW : ∀ cls d σ H, E cls d H → W cls d σ H)
    (hc : X.calm = true) (hN : X.N.Nodup) (I : Inv X pins σ H s) (hi : PI X tg iter wi) (ok : BlkOk X.N X.env.scope scope own)
    (hg : ∀ (s : Shared) (H : Hp) (C : Addr) (cl : List (Str × Addr)) (fp : List Addr), PG (X.blk s H scope (compEnvC scope cl C X.env) fp) tg g) (ht : ∀ (s : Shared) (H : Hp) (C : Addr) (cl : List (Str × Addr)) (fp : List Addr), PTs (X.blk s H scope (compEnvC scope cl C X.env) fp) ifs tt)
    (he : ∀ (s : Shared) (H : Hp) (C : Addr) (cl : List (Str × Addr)) (fp : List Addr) (xe : Value → Shared → Prop), Passes (CX X.prog X.w) (blkX X s H scope (compEnvC scope cl C X.env) fp xe) E → PE (blkX X s H scope (compEnvC scope cl C X.env) fp xe) elt te) (hsf : ∀ x, foldedSetIterable iter X.env x = pure x)
    (h : tLc wi g tt te (own.map (·.2)) σ H Q)
    (hRR : ∀ D C s' m H', Inv X pins σ H' s' → Q (.ref D) H' → s'.heap.Ns C m → FpOk X pins H' C → ∀ h'', Heap.SameBut C s'.heap h'' → Qf (.ref D) { s' with heap := h'' }) :
    wpAny (model X.prog X.w) X.A (comprehension (.ListComp elt [⟨tg, iter, ifs, 0⟩] scope pos) scope X.env pos' (newList []) false (eval iter X.env) none) Qf X.xe s := by
  have hfree : ∀ y ∈ scope.names, y.2 = .free → ∃ c, X.env.cells.lookup y.1 = some c := fun y hy e => by
    rcases ok.free y hy e with k | k
    · exact I.ok.has _ (.inl k)
    · exact I.ok.has _ (.inr k)
  refine comprehension_at (use := none) rfl hsf (closure_ok hfree) ok.kind (fun y hy e => by rw [ok.uniq y hy, e])
    (thn (hi.run pins s σ H _ I h) fun xv s1 hx => thn hx fun itv s2 h2 => ?_)
  obtain ⟨it, fp, tn, J, H2, e, I2, T, st2, f2, q⟩ := h2
  subst e
  refine wpAny_newObj_type (newEnv_comp ?_) (by show 0 ≤ sizeLine; decide)
  generalize hD : s2.heap.objs.size = D
  have hDn : H2 D = none := I2.hok.fresh (Nat.le_of_eq hD)
  obtain ⟨Wk, ⟨m0, w0⟩, turn⟩ := q D hDn
  generalize hs3 : ({ s2 with heap := s2.heap.push { cls := .type "list", data := .seq ([] : List Value).toArray } } : Shared) = s3
  have I3 : Inv X pins σ (upd H2 D (.lst [])) s3 := by
    rw [← hs3]
    refine I2.laid (t' := s2.toks) (fun b o e => Heap.get?_push_of_some _ e) (Nat.le_of_eq hD) ⟨Nat.zero_le _, [], 0, .nil, ?_⟩
    rw [← hD]
    exact Heap.get?_push_size _ rfl
  have h3 : s3.heap = s2.heap.push { cls := .type "list", data := .seq ([] : List Value).toArray } := by rw [← hs3]
  have sz : ∀ b ∈ fp, b < s2.heap.objs.size := fun b hb => by
    obtain ⟨o, e, _⟩ := T.obj _ _ st2 b hb
    exact Heap.lt_size e
  have f3 : ∀ b ∈ fp, FpOk X pins (upd H2 D (.lst [])) b ∧ b < s3.heap.objs.size := fun b hb => by
    have hlt := sz b hb
    refine ⟨⟨?_, (f2 b hb).2⟩, by rw [h3, Heap.size_push]; exact Nat.lt_succ_of_lt hlt⟩
    rw [upd_ne (by rw [← hD]; exact Nat.ne_of_lt hlt)]
    exact (f2 b hb).1
  have st3 : tn 0 s3.heap := T.keep _ _ _ st2 fun b _ o e => by rw [h3]; exact Heap.get?_push_of_some _ e
  have I4 := block_start I3 ok hN f3
  generalize hcl : cellsFrom (s3.heap.objs.size + 1) scope.names (cloFrom X.env.cells scope.names []) = cl at I4
  have pg := hg s3 (upd H2 D (.lst [])) s3.heap.objs.size cl fp
  have pt := ht s3 (upd H2 D (.lst [])) s3.heap.objs.size cl fp
  have nfp : ∀ b ∈ fp, (upd H2 D (.lst [])) b = none := fun b hb => (f3 b hb).1.1
  generalize hH3 : upd H2 D (.lst []) = H3 at I3 I4 pg pt w0 nfp f3
  have fails : ∀ {H : Hp} {s s' : Shared} {pn : List (Addr × Obj)} {σ' : L2.St} {e : Value}, Inv (X.blk s3 H3 scope (compEnvC scope cl s3.heap.objs.size X.env) fp) pn σ' H s → CX X.prog X.w X.stack H s E e s' →
      notedBy (model X.prog X.w) X.A (compEnvC scope cl s3.heap.objs.size X.env) (CompFails (model X.prog X.w) X.A X.xe (compEnvC scope cl s3.heap.objs.size X.env)) e s' := fun I c => block_fails hs hf tk (fun cls d H h => hW cls d σ H h) I3 f3 I c
  have pe := he s3 H3 s3.heap.objs.size cl fp (notedBy (model X.prog X.w) X.A (compEnvC scope cl s3.heap.objs.size X.env) (CompFails (model X.prog X.w) X.A X.xe (compEnvC scope cl s3.heap.objs.size X.env)))
    fun pins' σ' H' s' e s'' I' c => fails I'.unwish c
  show codeAny _ _ (.compStart (.ListComp elt [⟨tg, iter, ifs, 0⟩] scope pos) 0 (.ref it) (.ref D) (compEnvC scope cl s3.heap.objs.size X.env))
    (compEnds (model X.prog X.w) X.A X.xe none Qf (.ref D) (compEnvC scope cl s3.heap.objs.size X.env)) { s3 with heap := pushCells (s3.heap.push { cls := .type "dict", data := .dict #[] }) scope.names }
  generalize hs4 : ({ s3 with heap := pushCells (s3.heap.push { cls := .type "dict", data := .dict #[] }) scope.names } : Shared) = s4 at I4 ⊢
  have st4 : tn 0 s4.heap := T.keep _ _ _ st3 fun b _ o e => by rw [← hs4]; exact pushCells_keeps _ _ _ _ (Heap.get?_push_of_some _ e)
  generalize hce : compEnvC scope cl s3.heap.objs.size X.env = ce at I4 pg pt pe fails ⊢
  have cL : ce.locals = s3.heap.objs.size := by subst hce; rfl
  have stat : ∀ {σ' : L2.St} {H' : Hp} {s' : Shared}, Inv (X.blk s3 H3 scope ce fp) [] σ' H' s' → (∀ b ∈ fp, H' b = none) → ∀ b ∈ fp, FpOk (X.blk s3 H3 scope ce fp) [] H' b := fun {σ' H' s'} I' hn b hb =>
    ⟨hn b hb, (I'.ok.exf b hb).1, I'.ok.exfs b hb, .inl hb, fun x c e => (I'.ok.exf b hb).2 x c e, fun p hp => absurd (show p ∈ ([] : List (Addr × Obj)) ++ [] from hp) (by simp)⟩
  have loop : codeAny (model X.prog X.w) X.A (.compLoop (.ListComp elt [⟨tg, iter, ifs, 0⟩] scope pos) 0 (.ref it) (.ref D) ce) (compEnds (model X.prog X.w) X.A X.xe none Qf (.ref D) ce) s4 := by
    refine compLoop_any (fun n s' => ∃ i H', Inv (X.blk s3 H3 scope ce fp) [] (wipe σ (own.map (·.2))) H' s' ∧ tn i s'.heap ∧ (∀ b ∈ fp, H' b = none) ∧ Wk i n H') ?_ m0 ⟨0, H3, I4, st4, nfp, w0⟩
    rintro n s5 ⟨i, H5, I5, st5, n5, w5⟩
    rcases turn i n H5 w5 with ⟨stop, qq⟩ | ⟨go, Nx, hNx, step⟩
    · have td := T.done (X.blk s3 H3 scope ce fp) rfl rfl rfl hc i [] s5 _ H5 (fun _ _ => False) I5 (stat I5 n5) st5 stop
      refine thnF td fun r s6 ⟨hr, I6⟩ => ?_
      subst hr
      have I7 : Inv X pins σ H5 s6 := I3.call' (ch := fp) I6.os I6.base I6.hok I6.bare fun b hb => ⟨(f3 b hb).1.2.2.2.1, (f3 b hb).1.2.1, (f3 b hb).1.2.2.2.2.1, (f3 b hb).1.2.2.2.2.2⟩
      have nC : H5 s3.heap.objs.size = none := by
        have z : H5 ce.locals = none := I6.free
        rw [cL] at z
        exact z
      obtain ⟨m, hn, _⟩ := I6.loc
      have hn : s6.heap.Ns ce.locals m := hn
      exact ⟨m, hn, by rw [cL] at hn ⊢; exact hRR D s3.heap.objs.size s6 m H5 I7 qq hn (I3.fpOk (Nat.le_refl _) nC)⟩
    · have ti := T.item (X.blk s3 H3 scope ce fp) rfl rfl rfl hc i [] s5 _ H5 (fun _ _ => False) I5 (stat I5 n5) st5 go
      refine thnF ti fun r s6 ⟨u, hr, h6⟩ => ?_
      subst hr
      refine thnF h6 fun _ s7 ⟨x, H7, I7, r7, y7, st7, n7⟩ => ?_
      have I7' := I7.pinned (stat I7 n7) (T.obj _ _ st7)
      refine thnF (pg.run _ s7 _ H7 x u _ I7' r7 (step x H7 y7)) fun _ s8 ⟨σ8, H8, I8, hw8, q8⟩ => ?_
      refine thnF (pt.run _ s8 σ8 H8 _ I8 q8) fun b s9 ⟨H9, I9, q9⟩ => ?_
      have fin : ∀ {s' : Shared} {H' : Hp}, Inv (X.blk s3 H3 scope ce fp) ([] ++ pinsAt fp s7.heap) σ8 H' s' → Nx H' → ∃ m, m < n ∧ ∃ i H', Inv (X.blk s3 H3 scope ce fp) [] (wipe σ (own.map (·.2))) H' s' ∧ tn i s'.heap ∧ (∀ b ∈ fp, H' b = none) ∧ Wk i m H' := fun {s' H'} I' nx => by
        obtain ⟨m', hm, w'⟩ := hNx H' nx
        have pin' : ∀ b ∈ fp, ∀ o, s7.heap.get? b = some o → s'.heap.get? b = some o ∧ H' b = none := fun b hb o e =>
          let z := I'.pin (b, o) (List.mem_append_right _ (List.mem_append_right _ (mem_pinsAt hb e)))
          ⟨z.1, z.2.1⟩
        have hl : (wipe σ (own.map (·.2))).length = σ8.length := by rw [← hw8, wipe_length]
        refine ⟨m', hm, i + 1, H', (I'.unpinned (pins := [])).weak hl (fun j v e => ?_), T.keep _ _ _ st7 fun b hb o e => (pin' b hb o e).1, fun b hb => ?_, w'⟩
        · rw [← hw8] at e
          exact (wipe_some e).1
        · obtain ⟨o, e, _⟩ := T.obj _ _ st7 b hb
          exact (pin' b hb o e).2
      cases b with
      | false =>
        simp only [Bool.false_eq_true, if_false] at q9 ⊢
        exact fin I9 q9
      | true =>
        simp only [if_true] at q9 ⊢
        refine thn (pe.run _ s9 σ8 H9 _ (I9.wish _) q9) fun z s10 ⟨yv, H10, I10, r10, acc, hD10, hz10, nx⟩ => ?_
        have I10' := I10.unwish
        exact thnF (app_ok (X := X.blk s3 H3 scope ce fp) (Q := fun _ s' => ∃ m, m < n ∧ ∃ i H', Inv (X.blk s3 H3 scope ce fp) [] (wipe σ (own.map (·.2))) H' s' ∧ tn i s'.heap ∧ (∀ b ∈ fp, H' b = none) ∧ Wk i m H') (E := fun _ _ => False) I10' hD10 hz10 r10 fun s11 I11 => fin I11 nx) fun _ _ x => x
  exact codeAny_compStart_list loop (T.self X.A 0 _ _ _ st4 loop)
/-- [elt for x in iter], where elt may raise -/
theorem pe_lcx {elt tg iter : Expr} {ifs : List Expr} {scope : Scope} {own : List (Str × Nat)} {pos : Pos} {wi : TI} {g : TG} {tt : TT} {te : TE} (hs : X.stack = X.env :: X.outer) (hf : X.env.frame = some X.env.locals) (tk : Takes X W) (hW : ∀ cls d σ H, E cls d H → W cls d σ H)
    (hc : X.calm = true) (hN : X.N.Nodup) (hi : PI X tg iter wi) (ok : BlkOk X.N X.env.scope scope own)
    (hg : ∀ (s : Shared) (H : Hp) (C : Addr) (cl : List (Str × Addr)) (fp : List Addr), PG (X.blk s H scope (compEnvC scope cl C X.env) fp) tg g) (ht : ∀ (s : Shared) (H : Hp) (C : Addr) (cl : List (Str × Addr)) (fp : List Addr), PTs (X.blk s H scope (compEnvC scope cl C X.env) fp) ifs tt)
    (he : ∀ (s : Shared) (H : Hp) (C : Addr) (cl : List (Str × Addr)) (fp : List Addr) (xe : Value → Shared → Prop), Passes (CX X.prog X.w) (blkX X s H scope (compEnvC scope cl C X.env) fp xe) E → PE (blkX X s H scope (compEnvC scope cl C X.env) fp xe) elt te) (hsf : ∀ x, foldedSetIterable iter X.env x = pure x := by intro _; rfl) :
    PE X (.ListComp elt [⟨tg, iter, ifs, 0⟩] scope pos) (tLc wi g tt te (own.map (·.2))) := by
  refine ⟨fun pins s σ H Q I h => ?_⟩
  rw [eval_ListComp]
  refine lcx_core hs hf tk hW hc hN I hi ok hg ht he hsf h fun D C s' m H' I' q hn f h'' sb => ?_
  obtain ⟨f0, f1, f2, f3, f4, f5⟩ := f
  exact ⟨.ref D, H', I'.turned (t' := s'.toks) (fun b o hb e => (sb.2 b hb).trans e) f0 f1 f3 f4 f5, rfl, q⟩
end
end Cmx
set_option Elab.async false
set_option linter.all false
set_option maxRecDepth 100000
set_option maxHeartbeats 4000000
/-! Calls by a class's attribute; a caught exception kept behind its suite; isinstance of it with several classes. -/
namespace Rl
open PySem PySem.Spec PyProof.Rows L2
/-! ### C.m(e, ..) -/
def tClsF (C : Addr) (sp : Sp) (dvs : List V) (E : XK) (ta : TE) (t : TA) : TE := fun σ H Q => ta σ H fun x H1 => x = .ref C ∧ t σ H1 fun vs H2 => sp (vs ++ dvs) H2 Q E
def tClsI (K : PySem.W.Frag) (C : Addr) (ta : TE) (t : TA) : TE := fun σ H Q => ta σ H fun x H1 => x = .ref C ∧ tVeI K t σ H1 Q
section
variable {X : Cx} {CX : CXT} {k : Nat} {C f : Addr} {mc : Value} {fd : FuncData} {ps : List Str} {ds : List Value} {dvs : List V} {sp : Sp} {E : XK} {o e : Expr} {es : List Expr} {m : Str} {pos apos : Pos} {ta : TE} {t : TA} {pl : Sem Bool}
theorem pe_clsf (he : PE X o ta) (r : ClX.CRead X.K C mc) (at_ : PySem.W.findCls X.K (.ref C) mc m = some (.val (.ref f))) (kp : PySem.W.keepIn X.K (.ref f) = true) (F : FnOk X.prog X.w X.K X.mg X.base CX k f fd ps sp) (hr : Room k X.A) (hb : Binds X.K fd ps ds) (hd : Vals dvs ds)
    (hx : Passes CX X E) (ha : PA X (e :: es) t)
    (hst : starEach (e :: es) X.env = (false, eval e X.env) :: starEach es X.env := by rfl) (hpl : (backTo pos (starEach es X.env)).any (·.1) = false := by rfl)
    (ht : eval (.Call (.Attribute o m apos) (e :: es) [] pos) X.env = (do
      let ov ← eval o X.env
      standAt apos.atName
      let (f, first) ← holding [ov] (getMethod ov m pl)
      callWith pos f first (backTo pos (starEach (e :: es) X.env)) (backToKw pos (keywordEach [] X.env))) := by rfl) :
    PE X (.Call (.Attribute o m apos) (e :: es) [] pos) (tClsF C sp dvs E ta t) := by
  refine ⟨fun pins s σ H Q I h => ?_⟩
  refine PySem.W.methodCall_KW (pl := pl) (thn (he.run pins s σ H _ I h) fun u s1 ⟨x, H1, I1, rx, ex, q⟩ => ?_) ht
  subst ex
  obtain rfl : u = Value.ref C := rx
  refine PySem.W.method_cls I1.kIn r.ga (PySem.W.cls_value I1.kIn r.rd at_ rfl ?_)
  show wpAny _ _ (callWith pos (Value.ref f) [] (backTo pos (starEach (e :: es) X.env)) []) _ _ _
  refine PySem.W.callWith_K (h₀ := X.base) I1.ok.mod.kin kp (thn (ha.run pos pins _ σ H1 _ (I1.tok _) q) fun us s2 ⟨vs, H2, I2, rv, q2⟩ => ⟨I2.kIn, ?_⟩) hst hpl
  exact run_fn F hr hb hd hx I2 rv q2
theorem pe_clsi (he : PE X o ta) (r : ClX.CRead X.K C mc) (at_ : PySem.W.findCls X.K (.ref C) mc "__init__" = some (.val (.builtin "ValueError.__init__"))) (ha : PA X (e :: es) t)
    (hst : starEach (e :: es) X.env = (false, eval e X.env) :: starEach es X.env := by rfl) (hpl : (backTo pos (starEach es X.env)).any (·.1) = false := by rfl)
    (ht : eval (.Call (.Attribute o "__init__" apos) (e :: es) [] pos) X.env = (do
      let ov ← eval o X.env
      standAt apos.atName
      let (f, first) ← holding [ov] (getMethod ov "__init__" pl)
      callWith pos f first (backTo pos (starEach (e :: es) X.env)) (backToKw pos (keywordEach [] X.env))) := by rfl) :
    PE X (.Call (.Attribute o "__init__" apos) (e :: es) [] pos) (tClsI X.K C ta t) := by
  refine ⟨fun pins s σ H Q I h => ?_⟩
  refine PySem.W.methodCall_KW (pl := pl) (thn (he.run pins s σ H _ I h) fun u s1 ⟨x, H1, I1, rx, ex, q⟩ => ?_) ht
  subst ex
  obtain rfl : u = Value.ref C := rx
  refine PySem.W.method_cls I1.kIn r.ga (PySem.W.cls_value I1.kIn r.rd at_ rfl ?_)
  show wpAny _ _ (callWith pos (Value.builtin "ValueError.__init__") [] (backTo pos (starEach (e :: es) X.env)) []) _ _ _
  refine PyProof.Rows.callWith_method1 (thn (ha.run pos pins _ σ H1 _ (I1.tok _) q) fun us s2 ⟨vs, H2, I2, r2, a, C', ws, ev, hl, T, ea, q2⟩ => ?_) hst hpl
  subst ev
  cases r2 with
  | @cons _ u0 _ ur ra rw' =>
    obtain rfl : u0 = Value.ref a := ra
    have hlen : ur.length ≤ sizeLine := by
      rw [← Paired.length rw', sizeLine_eq]
      omega
    exact oinit_ok T I2 ea hlen fun s' J => ⟨.non, H2, J, rfl, q2⟩
end

/-! ### isinstance(e, (C1, ..)) of the exception that the suite holds -/
def rIsEC (K : PySem.W.Frag) (D a : Addr) : List V → Hp → VK → Prop := fun xs H Q => ∃ (c : V) (u : Value) (b : Bool), xs = [.ref a, c] ∧ ClsV c u ∧ PySem.W.kitOne K (.ref D) u = some b ∧ Q (.bl b) H
def rIsET (K : PySem.W.Frag) (D a : Addr) : List V → Hp → VK → Prop := fun xs H Q => ∃ (tp : Addr) (cs : List V) (us : List Value) (b : Bool), xs = [.ref a, .ref tp] ∧ H tp = some (.tup cs) ∧ Paired ClsV cs us ∧ PySem.W.kitAny K (.ref D) us = some b ∧ Q (.bl b) H
theorem call_isEC {X : Cx} {a D : Addr} {oe : Obj} {pn : List (Addr × Obj)} (C : ExcC X.K D) (hz : Zc (.ref D) none oe) (hf : ∃ vs, oe.data = .fields vs) : CallR (X.suite a ((a, oe) :: pn)) (.builtin "isinstance") (rIsEC X.K D a) := by
  intro pins s σ H xs us Q I r h
  obtain ⟨c, cv, b, rfl, hcv, e, q⟩ := h
  exact call_isE C hz hf pins s σ H _ us Q I r ⟨c, cv, b, rfl, fun u r => hcv.eq r, e, q⟩
theorem call_isET {X : Cx} {a D : Addr} {oe : Obj} {pn : List (Addr × Obj)} (C : ExcC X.K D) (hz : Zc (.ref D) none oe) (hf : ∃ vs, oe.data = .fields vs) : CallR (X.suite a ((a, oe) :: pn)) (.builtin "isinstance") (rIsET X.K D a) := by
  intro pins s σ H xs us Q I r h
  obtain ⟨tp, cs, ws, b, rfl, hT, k, e, q⟩ := h
  obtain ⟨u1, u2, rfl, r1, r2⟩ := vals2 r
  cases (show u1 = Value.ref a from r1)
  cases (show u2 = Value.ref tp from r2)
  obtain ⟨hget, _⟩ := I.pin (a, oe) (List.mem_append.mpr (.inl List.mem_cons_self))
  obtain ⟨vs, hv⟩ := hf
  have J : PySem.W.InstAt s.heap a oe D none := by
    obtain ⟨oc, od, oda, osl⟩ := oe
    obtain ⟨h1, h2⟩ := hz
    dsimp only at h1 h2 hv
    subst h1 h2 hv
    exact ⟨hget, rfl, rfl, trivial⟩
  obtain ⟨_, its, rv, o, h1, h2, n, h3⟩ := (show ObjOk X.prog X.w H s.heap tp (.tup cs) from I.hok tp _ hT)
  have e3 := ClsV.all k rv
  subst e3
  obtain ⟨oc, od, dt, sl⟩ := o
  simp only at h2 h3
  subst h2 h3
  exact PySem.W.kia_tup (PySem.W.handS_kitx_exc C.hg C.hk C.hs C.hd C.ha C.hn C.ht C.hm) I.kIn J h1 e (fun z => nomatch z) fun tk => ⟨.bl b, H, I.tok tk, rfl, q⟩

/-! ### an exception that is kept -/
/-- at a: an exception of the class at C, its dict -/
def exT (a C : Addr) (d : Option Addr) : HO := .ext fun h => ∃ (o : Obj) (vs : Array Value), h.get? a = some o ∧ o.cls = .ref C ∧ o.dict = d ∧ o.data = .fields vs
theorem exT_ok {P : Program} {w : World} {H : Hp} {h : Heap} {a C : Addr} {d : Option Addr} {o : Obj} {vs : Array Value} (e : h.get? a = some o) (z : Zc (.ref C) d o) (hd : o.data = .fields vs) : ObjOk P w H h a (exT a C d) :=
  ⟨⟨o, vs, e, z.1, z.2, hd⟩, ⟨o, e⟩, fun h1 h2 ⟨o', vs', e', r⟩ k => ⟨o', vs', k _ e', r⟩⟩
theorem exT_tup {a C : Addr} {d : Option Addr} {xs : List V} : exT a C d ≠ .tup xs := fun z => by
  have z' : HO.ext _ = HO.tup xs := z
  cases z'
/-- a caught exception, tracked -/
theorem track {X : Cx} {pins : List (Addr × Obj)} {σ : L2.St} {H : Hp} {s : Shared} {a C : Addr} {oe : Obj} {vs : Array Value} {d : Option Addr} (I : Inv X ((a, oe) :: pins) σ H s) (hz : Zc (.ref C) d oe) (hd : oe.data = .fields vs)
    (h0 : X.s_0.heap.get? a = none) (hp : ∀ p ∈ X.pn ++ pins, p.1 ≠ a) : Inv X pins σ (upd H a (exT a C d)) s := by
  obtain ⟨ha, hn, hL, hF, hc⟩ := I.pin (a, oe) (List.mem_append_right _ List.mem_cons_self)
  have ha : s.heap.get? a = some oe := ha
  have hn : H a = none := hn
  refine ⟨I.ok, I.os, I.bare, ⟨I.base.keep, I.base.slot, fun b o e n hx => ?_, I.base.there, fun b xs e => ?_, fun b o u e => ?_, fun b ps e => ?_⟩, I.loc, I.cell, ?_, fun x c e => ?_, fun p h => ?_, fun b o q => ?_, I.len⟩
  · have hb : b ≠ a := fun z => by rw [z, h0] at e; cases e
    rw [upd_ne hb]; exact I.base.free b o e n hx
  · have q := I.base.tups b xs e
    rw [upd_ne (ne_of_none q hn)]; exact q
  · have q := I.base.frzs b o u e
    rw [upd_ne (ne_of_none q hn)]; exact q
  · obtain ⟨m, q⟩ := I.base.tbls b ps e
    exact ⟨m, by rw [upd_ne (ne_of_none q hn)]; exact q⟩
  · rw [upd_ne (Ne.symm hL)]; exact I.free
  · have hb : c ≠ a := fun z => by
      obtain ⟨v, o, e1, e2⟩ := I.cell x c e
      rw [z, ha] at e1
      cases e1
      rw [hd] at e2
      cases e2
    rw [upd_ne hb]; exact I.freeC x c e
  · obtain ⟨p1, p2, p3⟩ := I.pin p (by
      rcases List.mem_append.mp h with q | q
      · exact List.mem_append_left _ q
      · exact List.mem_append_right _ (List.mem_cons_of_mem _ q))
    exact ⟨p1, by rw [upd_ne (hp p h)]; exact p2, p3⟩
  · by_cases hb : b = a
    · subst hb
      rw [upd_same] at q
      cases q
      exact exT_ok ha hz hd
    · rw [upd_ne hb] at q
      exact (I.hok b o q).stay (fun _ _ _ z => z) (fun c z => by rw [upd_ne (ne_of_none z hn)]; exact z) fun c xs z => by rw [upd_ne (ne_of_none z hn)]; exact z
/-- e.f, e such an exception -/
def tXc (K : PySem.W.Frag) (f : Str) (te : TE) : TE := fun σ H Q => te σ H fun x H1 => ∃ (a C dd : Addr) (fs : List (Str × V)) (v : V), x = .ref a ∧ XfC K C ∧ PySem.W.findIn K (.ref C) f = some none ∧ H1 a = some (exT a C (some dd)) ∧ H1 dd = some (.xd fs) ∧ fs.lookup f = some v ∧ Q v H1
theorem pe_xc {X : Cx} {e : Expr} {te : TE} {pos : Pos} {n : Str} (he : PE X e te) (hb : attributeBase e n X.env (eval e X.env) = eval e X.env := by rfl) :
    PE X (.Attribute e n pos) (tXc X.K n te) := by
  refine ⟨fun pins s σ H Q I h => ?_⟩
  refine attr_of hb (thn (he.run pins s σ H _ I h) fun u s1 hh => ?_)
  obtain ⟨x, H1, I1, rx, a, C, dd, fs, v, ex, T, hno, ea, ed, l, q⟩ := hh
  subst ex
  obtain rfl : u = Value.ref a := rx
  obtain ⟨⟨o, vs, ha, hc, hdi, hd⟩, _⟩ := (show ObjOk X.prog X.w H1 s1.heap a (.ext _) from I1.hok a _ ea)
  have hx : ObjOk X.prog X.w H1 s1.heap dd (.xd fs) := I1.hok dd _ ed
  obtain ⟨mA, hns, hr⟩ := hx
  obtain ⟨od, ho, hl⟩ := lookIn_ns hns
  obtain ⟨u, hu, ru⟩ := RelO.some_of (v := v) (o := mA n) (by rw [← l]; exact hr n)
  have J : PySem.W.InstAt s1.heap a o C (some od) := ⟨ha, hc, by unfold PySem.W.notCls; rw [hd] <;> rfl, by rw [hdi]; exact ho⟩
  exact HandSPX.exc_get I1.kIn J T.ga T.gg T.exC (PySem.W.findObj_own T.hdC hno rfl (by rw [hl, hu])) (handed_of ru) ⟨v, H1, I1.tok _, ru, q⟩

/-- what 'except x as n: suite' wishes, the exception tracked behind the suite -/
def wKeep (K : PySem.W.Frag) (c : Value) (i : Nat) (ts : Addr → Value → Option Addr → TS) (D : Ends) : WX := fun cls d σ H =>
  PySem.W.exmOne K cls c = some true ∧ ∃ C, cls = .ref C ∧ ∀ a, H a = none → ts a cls d { nx := fun σ' H' => H' a = none → D.nx (σ'.set i none) (upd H' a (exT a C d)), rt := fun _ _ => False, bk := fun _ _ => False, ct := fun _ _ => False } (σ.set i (some (.ref a))) H
section
variable {X : Cx} {x n : Str} {c : Value} {i : Nat} {body suite : List Stmt} {b₀ : Stmt} {np pos pos' : Pos} {tb : WX → TS} {ts : Addr → Value → Option Addr → TS}
theorem ps_try_keep (hs : X.stack = X.env :: X.outer) (hf : X.env.frame = some X.env.locals) (hex : X.ex = []) (hN : X.N.Nodup) (hi : X.N[i]? = some n) (hln : X.env.kindOf n = some .local) (hc : Names X x c)
    (hb : ∀ (W : WX) (pn : List (Addr × Obj)) (xe : Value → Shared → Prop), Takes (X.tr pn xe) W → PassesOwn (model X.prog X.w) X.A X.env xe → PSs (X.tr pn xe) body (tb W))
    (hsu : ∀ (a : Addr) (oe : Obj) (cls : Value) (d : Option Addr) (pn : List (Addr × Obj)), Zc cls d oe → (∃ vs, oe.data = .fields vs) → PSs (X.suite a ((a, oe) :: pn)) (b₀ :: suite) (ts a cls d)) :
    PS X (.Try body [.ExceptHandler (some (.Name x np)) (some n) (b₀ :: suite) pos'] [] [] pos) (fun D σ H => tb (wKeep X.K c i ts D) D σ H) := by
  refine ⟨fun pins s σ H D I h => ?_⟩
  have ok := I.ok
  have hfr : X.A.frames = some (X.env :: X.outer) := by rw [ok.frames, hs]
  have hloc : Loc X.env.scope n := .inl hln
  refine wpAny_Try_except ?_
  refine wpAny_mono ((hb (wKeep X.K c i ts D) (X.pn ++ pins) (fun e s₁ => wpAny (model X.prog X.w) X.A (noteFrame e X.env) (fun _ s₂ => wpAny (model X.prog X.w) X.A (setFlight e none) (fun _ s₃ =>
    wpAny (model X.prog X.w) X.A (handleBy e X.env [.ExceptHandler (some (.Name x np)) (some n) (b₀ :: suite) pos']) (SP X pins D) X.xe s₃) X.xe s₂) X.xe s₁) (fun u s' xx => ?_) PassesOwn.looking).run [] s σ H D (I.toTry _) h) (fun f s1 hsp => ?_) (fun e s1 he => he)
  · obtain ⟨a, B, sI, pins', σ', H', cls, d, rfl, J', nb, up, sky, na, os, ag, hb1, C, hcls, hyes⟩ := xx
    have J : Inv X pins σ' H' sI := J'.ofTry ok
    have sky' : Sky B (X.env :: X.outer) a (Zc cls d) X.env.locals s'.heap := by rw [← hs]; exact sky
    show wpAny (model X.prog X.w) X.A (noteFrame (.ref a) X.env) _ _ _
    refine Sky.land Zc.steady hfr hf sky' fun h3 fl3 up3 => ?_
    have J3 : Inv X pins σ' H' { s' with heap := h3 } := J.landed nb fl3.1 (up.trans up3) os ag
    obtain ⟨oe3, vs3, he3, hz3, hd3⟩ := fl3.there
    have notFr : ∀ {h : Heap} {o : Obj} {vs : Array Value}, h.FunFrames B (X.env :: X.outer) → h.get? a = some o → o.data = .fields vs → a ∉ frs (X.env :: X.outer) := fun {h o vs} ff e dd hm => by
      obtain ⟨_, o', e', hnf⟩ := ff.mem hm
      rw [e] at e'; cases e'
      exact hnf _ dd
    have nfr := notFr fl3.2.2.1 he3 hd3
    have nL : a ≠ X.env.locals := fun z => nfr (List.mem_filterMap.mpr ⟨X.env, List.mem_cons_self, by rw [hf, z]⟩)
    have nF : a ∉ X.fs := fun hm => by
      obtain ⟨e, he, q⟩ := List.mem_filterMap.mp hm
      exact nfr (List.mem_filterMap.mpr ⟨e, List.mem_cons_of_mem _ he, q⟩)
    have hI : sI.heap.get? a = none := by
      cases q : sI.heap.get? a with
      | none => rfl
      | some o =>
        have z := nb a o q (by rw [hs]; exact nfr)
        rw [fl3.2.1] at z
        cases z
    have h0 : X.s_0.heap.get? a = none := by
      cases q : X.s_0.heap.get? a with
      | none => rfl
      | some o =>
        obtain ⟨o', z⟩ := J.base.there a o q (by rw [hex]; exact fun z => nomatch z)
        rw [hI] at z
        cases z
    have hpn : ∀ p ∈ X.pn ++ pins, p.1 ≠ a := fun p hp z => by
      have q := (J.pin p hp).1
      rw [z, hI] at q
      cases q
    have S3 := J3.suite he3 hd3 na nL nF
    refine wpAny_handleBy_cons (codeAny_handlers_test ?_) (by intro q; cases q)
    have LT : PySem.W.Looks (model X.prog X.w) h3 (typeOf (.ref a)) cls := fun A Q E s k q => wpAny_typeOf_ref (k _ _ he3) (by rw [hz3.1]; exact q)
    have LM := PySem.W.exm_one (M := model X.prog X.w) (J3.kIn) LT hb1
    have test : ∀ {Q : Value → Shared → Prop} {E : Value → Shared → Prop}, Q c { s' with heap := h3 } → wpAny (model X.prog X.w) (X.A.mark (some (.ref a))) (eval (.Name x np) X.env) Q E { s' with heap := h3 } := fun {Q E} q => by
      obtain ⟨hg, hdbg, hm | ⟨hm, hv, hnn⟩⟩ := hc
      · exact ld_glob (X := X.suite a ((a, oe3) :: (X.pn ++ pins))) S3 hg hm q hdbg
      · exact ld_blt (X := X.suite a ((a, oe3) :: (X.pn ++ pins))) S3 hg hm hv q hnn hdbg
    refine test (LM.here ?_)
    refine codeAny_handlers_suite_as ?_
    refine HandSPX.lands_againZ fl3 fun h4 fl4 up4 => ?_
    have J4 : Inv X pins σ' H' { s' with heap := h4 } := J.landed nb fl4.1 ((up.trans up3).trans up4) os ag
    obtain ⟨oe4, vs4, he4, hz4, hd4⟩ := fl4.there
    have S4 := J4.suite he4 hd4 na nL nF
    refine store_ok (X := X.suite a ((a, oe4) :: (X.pn ++ pins))) (v := .ref a) S4 hN hi hloc rfl (fun s5 S5 => ?_) (.inr hln)
    refine wpAny_mono ((hsu a oe4 cls d (X.pn ++ pins) hz4 ⟨_, hd4⟩).run [] s5 _ H' _ S5 (hyes a na)) (fun f s6 hsp => ?_) (fun _ _ z => False.elim z)
    cases f with
    | next =>
      obtain ⟨σ6, H6, S6, q6⟩ := hsp
      have S7 : Inv X ((a, oe4) :: pins) σ6 H6 s6 := ⟨ok, S6.os, S6.bare, S6.base, S6.loc, S6.cell, S6.free, S6.freeC, fun p hp => S6.pin p (by
        rcases List.mem_append.mp hp with z | z
        · exact List.mem_append_left _ (List.mem_cons_of_mem _ (List.mem_append_left _ z))
        · rcases List.mem_cons.mp z with z | z
          · subst z; exact List.mem_append_left _ List.mem_cons_self
          · exact List.mem_append_left _ (List.mem_cons_of_mem _ (List.mem_append_right _ z))), S6.hok, S6.len⟩
      have n6 : H6 a = none := (S7.pin (a, oe4) (List.mem_append_right _ List.mem_cons_self)).2.1
      refine gone_ok S7 hN hi hln fun s7 J7 => ⟨_, _, track J7 (by rw [← hcls]; exact hz4) hd4 h0 hpn, q6 n6⟩
    | brk => obtain ⟨_, _, _, q6⟩ := hsp; exact q6.elim
    | cont => obtain ⟨_, _, _, q6⟩ := hsp; exact q6.elim
    | ret u => obtain ⟨_, _, _, _, _, q6⟩ := hsp; exact q6.elim
  · cases f with
    | next =>
      obtain ⟨σ', H', J', q⟩ := hsp
      exact wpAny_execs_nil ⟨σ', H', J'.ofTry ok, q⟩
    | brk =>
      obtain ⟨σ', H', J', q⟩ := hsp
      exact ⟨σ', H', J'.ofTry ok, q⟩
    | cont =>
      obtain ⟨σ', H', J', q⟩ := hsp
      exact ⟨σ', H', J'.ofTry ok, q⟩
    | ret u =>
      obtain ⟨v, σ', H', J', r, q⟩ := hsp
      exact ⟨v, σ', H', J'.ofTry ok, r, q⟩
end
end Rl
set_option Elab.async false
set_option linter.all false
set_option maxRecDepth 100000
set_option maxHeartbeats 4000000
/-! list(reversed(xs)), xs[a::3], sorted(d) of any size, zip of tuples of unlike lengths. -/
namespace Ls
open PySem PySem.Spec PyProof.Rows L2 RT

/-! ### list(reversed(xs)) -/
section
variable {prog : Program} {w : World} {A : Around} {E : Value → Shared → Prop} {s : Shared}
theorem extend_rev {it l S : Addr} {items : Array Value} {R : Result → Shared → Prop} {c0 : Nat} (hh : A.handled = none) (hit : s.heap.IsRevIter it l ((items.size : Int) - 1)) (hl : s.heap.IsList l items) (hne : l ≠ it) (hn : items.size ≤ sizeLine)
    (hSi : S ≠ it) (hSl : S ≠ l) (res : Value) (hS : s.heap.get? S = some { cls := .type "list", data := .seq #[] c0 })
    (hR : ∀ h' tk acc' c', (∀ b o, b ≠ S → b ≠ it → s.heap.get? b = some o → h'.get? b = some o) → h'.get? S = some { cls := .type "list", dict := none, data := .seq acc' c', slots := #[] } → ItemsOf (fun i v => items[items.size - 1 - i]? = some v) acc' items.size → R (.ok (.ret res)) { s with heap := h', toks := tk }) :
    wpAny (model prog w) A.in1 (Builtin.List.listExtendWith (.ref S) (.ref it) res)
      (fun fin s' => match fin with | .done f => R (.ok f) s' | .again c' => c'.quiet = true ∧ codeAny (model prog w) A c' R s') (fun e s' => R (.error e) s') s := by
  have W := (Walks.listRev (prog := prog) (w := w) (A := A.in1) hh it l hne items).toS
  have hSf : S ∉ [it, l] := by simp only [List.mem_cons, List.not_mem_nil, or_false, not_or]; exact ⟨hSi, hSl⟩
  have hT : s.TypeIs (.ref it) "list_reverseiterator" := hit.typeIs
  have h1 : Builtin.List.listSameRef (.ref S) (.ref it) = false := by simp [Builtin.List.listSameRef, hSi]
  unfold Builtin.List.listExtendWith
  refine wpAny_bind (wpAny_typeOf hT ?_)
  rw [if_neg (by rw [h1]; decide)]
  refine wpAny_bind (wpAny_pyIter_revIter hit ?_)
  refine wpAny_bind (wpAny_holding ?_)
  unfold Builtin.List.listLengthHint
  refine wpAny_bind (wpAny_specialOf hT nolen_lri ?_)
  show wpAny _ A.in1 (specialOf (Value.ref it) (Str.ofString "__length_hint__") >>= _) _ _ _
  refine wpAny_bind (wpAny_specialOf hT hint_lri ?_)
  generalize hid : ("list_reverseiterator.__length_hint__" : String) = id0
  wp_delta
  rw [show splitId id0 = some ("list_reverseiterator", "__length_hint__") from by subst hid; decide +kernel]
  subst hid
  refine wpAny_bind (wpAny_isInstance (b := true) hT (by rw [isSubtype_type]; kernel_rfl) ?_)
  refine wpAny_pure ?_
  rw [if_neg (by decide)]
  have e0 : ((items.size : Nat) : Int) - 1 - ((0 : Nat) : Int) = (items.size : Int) - 1 := by omega
  refine wpAny_pure ⟨plainId_quiet F.plain_extend_loop _, codeAny_extend_loopS W hn _ hSf _ items.size 0 _ _ _ rfl (Nat.zero_le _) ⟨Nat.zero_le _, by rw [e0]; exact hit, hl⟩ hS (ItemsOf.nil _) fun s' acc' c' hm hS' hacc => ?_⟩
  rw [Moved.eq_with hm]
  refine hR s'.heap s'.toks acc' c' (fun b o hb hb2 e => hm.heap b o (fun hmem => ?_) e) hS' hacc
  rcases List.mem_cons.mp hmem with e' | hmem
  · exact hb e'
  · exact hb2 (List.mem_singleton.mp hmem)
theorem call_list_rev {it l : Addr} {items : Array Value} {Q : Value → Shared → Prop} (hh : A.handled = none) (hit : s.heap.IsRevIter it l ((items.size : Int) - 1)) (hl : s.heap.IsList l items) (hne : l ≠ it) (hn : items.size ≤ sizeLine)
    (hQ : ∀ h' tk acc' c', (∀ b o, b ≠ it → s.heap.get? b = some o → h'.get? b = some o) → h'.get? s.heap.objs.size = some { cls := .type "list", dict := none, data := .seq acc' c', slots := #[] } → ItemsOf (fun i v => items[items.size - 1 - i]? = some v) acc' items.size → Q (.ref s.heap.objs.size) { s with heap := h', toks := tk }) :
    wpAny (model prog w) A (call (.type "list") [.ref it]) Q E s := by
  obtain ⟨oi, hoi, _⟩ := id hit
  obtain ⟨ol, hol, _⟩ := id hl
  have hSi : s.heap.objs.size ≠ it := Nat.ne_of_gt (Heap.lt_size hoi)
  have hSl : s.heap.objs.size ≠ l := Nat.ne_of_gt (Heap.lt_size hol)
  refine callType_codes (Q₁ := fun obj s₁ => obj = .ref s.heap.objs.size ∧ s₁ = { s with heap := s.heap.push { cls := .type "list", data := .seq #[] } }) PySem.F.called_list (PySem.F.typeCall_list_1 _) PySem.F.entry_list_init
    (code_list_new _ ⟨rfl, rfl⟩) fun obj s₁ h₁ => ?_
  obtain ⟨rfl, rfl⟩ := h₁
  have hS : (s.heap.push { cls := .type "list", data := .seq #[] }).get? s.heap.objs.size = some { cls := .type "list", data := .seq #[] } := Heap.get?_push_size _ rfl
  refine ⟨⟨_, hS, rfl⟩, PySem.F.args_list_init_2 _ _, ?_⟩
  show wpAny _ _ (do let old ← Builtin.List.listItems (.ref s.heap.objs.size); Builtin.List.listUpdate (.ref s.heap.objs.size) (fun _ => #[]); letGo old.toList.reverse; Builtin.List.listExtendWith (.ref s.heap.objs.size) (.ref it) .none) _ _ _
  refine wpAny_bind ?_
  unfold Builtin.List.listItems
  refine wpAny_bind (wpAny_seqItems hS rfl (wpAny_pure ?_))
  show wpAny _ _ (updateSeq s.heap.objs.size (fun _ => #[]) >>= fun _ => letGo (#[] : Array Value).toList.reverse >>= fun _ => Builtin.List.listExtendWith (.ref s.heap.objs.size) (.ref it) .none) _ _ _
  refine wpAny_bind (wpAny_updateSeq hS rfl ?_)
  have hS₂ := Heap.get?_update_self (Obj.mapSeq (fun _ => (#[] : Array Value))) hS rfl
  have oth : ∀ b o, s.heap.get? b = some o → ((s.heap.push { cls := .type "list", data := .seq #[] }).update s.heap.objs.size (Obj.mapSeq (fun _ => (#[] : Array Value)))).get? b = some o :=
    fun b o e => (Heap.get?_update_other _ _ (Nat.ne_of_gt (Heap.lt_size e))).trans (Heap.get?_push_of_some _ e)
  refine wpAny_bind (wpAny_letGo ?_)
  refine extend_rev (A := A.in1) hh (hit.at fun o e => oth _ _ e) ?_ hne hn hSi hSl .none hS₂ (fun h' tk acc' c' hk hS' hacc => ?_)
  · obtain ⟨o, e, r⟩ := hl
    exact ⟨o, oth _ _ e, r⟩
  · exact ⟨rfl, hQ h' tk acc' c' (fun b o hb e => hk b o (Nat.ne_of_lt (Heap.lt_size e)) hb (oth b o e)) hS' hacc⟩
end
def tListRev (K : PySem.W.Frag) (te : TE) : TE := fun σ H Q => te σ H fun v H1 => ∃ (a : Addr) (xs : List V), v = .ref a ∧ SqL K H1 a xs ∧ ∀ q, H1 q = none → Q (.ref q) (upd H1 q (.lst xs.reverse))
section
variable {X : Cx}
theorem pe_listRev {e : Expr} {te : TE} {p p2 pos pos2 : Pos} (hc : X.calm = true) (hg : Gl X "list") (hm : X.mg "list" = none) (hg2 : Gl X "reversed") (hm2 : X.mg "reversed" = none) (he : PE X e te)
    (hs : starEach [e] X.env = (false, eval e X.env) :: starEach [] X.env := by rfl)
    (hs2 : starEach [.Call (.Name "reversed" p2) [e] [] pos2] X.env = (false, eval (.Call (.Name "reversed" p2) [e] [] pos2) X.env) :: starEach [] X.env := by rfl) :
    PE X (.Call (.Name "list" p) [.Call (.Name "reversed" p2) [e] [] pos2] [] pos) (tListRev X.K te) := by
  refine ⟨fun pins s σ H Q I h => ?_⟩
  refine Call_ (ld_blt I hg hm boot_list (PyProof.Rows.callWith_type1 (args_cons (Call_ (ld_blt I hg2 hm2 PyProof.Rows.boot_reversed (PyProof.Rows.callWith_type1 (args_cons (thn (he.run pins s σ H _ I h) fun u s1 ⟨v, H1, I1, r1, q1⟩ => args_nil ?_) hs) hs rfl))) hs2) hs2 rfl))
  obtain ⟨a, xs, ev, hq, q⟩ := q1
  subst ev
  obtain rfl : u = Value.ref a := r1
  obtain ⟨its, rv, p', hz⟩ := I1.list hq
  refine call_reversed_list p'.isList (args_nil ?_)
  have k0 : ∀ b o, s1.heap.get? b = some o → (s1.heap.push (revObj a ((its.toArray.size : Int) - 1))).get? b = some o := fun b o e => Heap.get?_push_of_some _ e
  have I2 : Inv X pins σ H1 { s1 with heap := s1.heap.push (revObj a ((its.toArray.size : Int) - 1)) } := I1.kept (t' := s1.toks) k0
  obtain ⟨f0, f1, f2, f3, f4, f5⟩ := I1.fpOk (H' := H1) (b := s1.heap.objs.size) (Nat.le_refl _) (I1.hok.fresh (Nat.le_refl _))
  have hl := p'.isList
  obtain ⟨ol, hol, _⟩ := id hl
  have hne : a ≠ s1.heap.objs.size := Nat.ne_of_lt (Heap.lt_size hol)
  have hn : its.toArray.size ≤ sizeLine := by rw [List.size_toArray, ← rv.length]; exact hz
  refine call_list_rev (s := { s1 with heap := s1.heap.push (revObj a ((its.toArray.size : Int) - 1)) }) (I1.ok.hd hc) ⟨_, Heap.get?_push_size _ rfl, rfl, rfl⟩ (hl.push _) hne hn fun h' tk acc c' hk hD hi => ?_
  have hd0 : ∀ (b : Addr), (s1.heap.push (revObj a ((its.toArray.size : Int) - 1))).objs.size = b → b ≠ s1.heap.objs.size := fun b e z => by
    rw [← e] at z
    rw [Heap.size_push] at z
    exact absurd z (Nat.succ_ne_self _)
  have hD' := hD
  have I3 : Inv X pins σ H1 { s1 with heap := h', toks := tk } := I2.turned (t' := tk) (fun b o hb e => hk b o hb e) f0 f1 f3 f4 f5
  refine ⟨.ref _, upd H1 (s1.heap.push (revObj a ((its.toArray.size : Int) - 1))).objs.size (.lst xs.reverse), ?_, rfl, q _ (I2.hok.fresh (Nat.le_refl _))⟩
  have kk : ∀ b o, b ≠ s1.heap.objs.size → (s1.heap.push (revObj a ((its.toArray.size : Int) - 1))).get? b = some o → h'.get? b = some o := hk
  -- as a list that is laid
  have hfree : H1 (s1.heap.push (revObj a ((its.toArray.size : Int) - 1))).objs.size = none := I2.hok.fresh (Nat.le_refl _)
  have new : ∀ {H' : Hp}, ObjOk X.prog X.w H' h' (s1.heap.push (revObj a ((its.toArray.size : Int) - 1))).objs.size (.lst xs.reverse) := fun {H'} =>
    (show ObjOk X.prog X.w _ _ _ (.lst xs.reverse) from ⟨by rw [List.length_reverse]; exact hz, acc.toList, c', vals_rev rv hi, by rw [Array.toArray_toList]; exact hD'⟩)
  have I4 := I2.laid (t' := tk) (a := (s1.heap.push (revObj a ((its.toArray.size : Int) - 1))).objs.size) (o := .lst xs.reverse) (h' := (s1.heap.push (revObj a ((its.toArray.size : Int) - 1))).push { cls := .type "list", dict := none, data := .seq acc c', slots := #[] })
    (fun b o e => Heap.get?_push_of_some _ e) (Nat.le_refl _) (show ObjOk X.prog X.w _ _ _ (.lst xs.reverse) from ⟨by rw [List.length_reverse]; exact hz, acc.toList, c', vals_rev rv hi, by rw [Array.toArray_toList]; exact Heap.get?_push_size _ rfl⟩)
  generalize hs5 : ({ s1 with heap := (s1.heap.push (revObj a ((its.toArray.size : Int) - 1))).push { cls := .type "list", dict := none, data := .seq acc c', slots := #[] }, toks := tk } : Shared) = s5
  have I5 : Inv X pins σ (upd H1 (s1.heap.push (revObj a ((its.toArray.size : Int) - 1))).objs.size (.lst xs.reverse)) s5 := by rw [← hs5]; exact I4
  have e5 : ({ s1 with heap := h', toks := tk } : Shared) = { s5 with heap := h', toks := tk } := by rw [← hs5]
  show Inv X pins σ _ ({ s1 with heap := h', toks := tk } : Shared)
  rw [e5]
  refine I5.turned (it := s1.heap.objs.size) (t' := tk) (fun b o hb e => ?_) ?_ f1 f3 f4 f5
  · rw [← hs5] at e
    have e : ((s1.heap.push (revObj a ((its.toArray.size : Int) - 1))).push { cls := .type "list", dict := none, data := .seq acc c', slots := #[] }).get? b = some o := e
    by_cases hbn : b = (s1.heap.push (revObj a ((its.toArray.size : Int) - 1))).objs.size
    · subst hbn
      rw [Heap.get?_push_size _ rfl] at e
      cases e
      exact hD'
    · rw [Heap.get?_push_ne _ _ _ hbn] at e
      exact kk b o hb e
  · rw [upd_ne (Ne.symm (hd0 _ rfl))]; exact f0
end

/-! ### xs[a::3] -/
theorem picks {xs : List V} {its : List Value} (r : Vals xs its) : ∀ (l : List Nat), ∃ ys : List V, Vals ys (l.filterMap (its.toArray[·]?)) ∧ (∀ y ∈ ys, y ∈ xs) ∧ ys.length ≤ l.length
  | [] => ⟨[], .nil, fun _ h => by simp at h, Nat.le_refl _⟩
  | i :: l => by
    obtain ⟨ys, h1, h2, h3⟩ := picks r l
    rw [List.filterMap_cons]
    cases e : its.toArray[i]? with
    | none => exact ⟨ys, h1, h2, by rw [List.length_cons]; omega⟩
    | some v =>
      have e' : its[i]? = some v := by simpa using e
      obtain ⟨x, hx, rx⟩ : ∃ x, xs[i]? = some x ∧ RelV x v := by
        cases q : xs[i]? with
        | none => rw [r.none_of q] at e'; cases e'
        | some x =>
          obtain ⟨u, hu, ru⟩ := r.get q
          rw [e'] at hu
          cases hu
          exact ⟨x, rfl, ru⟩
      refine ⟨x :: ys, .cons rx h1, fun y hy => ?_, by simp only [List.length_cons]; omega⟩
      rcases List.mem_cons.mp hy with q | q
      · rw [q]; exact List.mem_of_getElem? hx
      · exact h2 y q
def tSl3 (K : PySem.W.Frag) (te : TE) (tl th ts : TO) : TE := fun σ H Q => te σ H fun x H1 => tl σ H1 fun l H2 => th σ H2 fun u H3 => ts σ H3 fun st H4 => ∃ a xs k, x = .ref a ∧ SqL K H4 a xs ∧ st = some k ∧ 0 < k ∧
  ∀ (p : Addr) (ys : List V), H4 p = none → (∀ y ∈ ys, y ∈ xs) → ys.length ≤ xs.length → Q (.ref p) (upd H4 p (.lst ys))
section
variable {X : Cx} {e : Expr} {lo hi st : Option Expr} {te : TE} {tl th ts : TO} {pos p2 : Pos}
theorem pe_slice3 {se : Expr} (he : PE X e te) (hl : PO X lo tl) (hu : PO X hi th) (hs : PO X (some se) ts) : PE X (.Subscript e (.Slice lo hi (some se) p2) pos) (tSl3 X.K te tl th ts) := by
  refine ⟨fun pins s σ H Q I h => ?_⟩
  refine Subscript_ (thn (he.run pins s σ H _ I h) fun v s1 ⟨x, H1, I1, r1, q1⟩ => ?_)
  refine wpAny_Slice (thn (hl.run pins s1 σ H1 _ I1 q1) fun vl s2 ⟨l, H2, I2, pl, q2⟩ => thn (hu.run pins s2 σ H2 _ I2 q2) fun vu s3 ⟨u, H3, I3, pu, q3⟩ => thn (hs.run pins s3 σ H3 _ I3 q3) fun vs s4 ⟨k, H4, I4, ps, q4⟩ => ?_)
  obtain ⟨a, xs, k, ex, hq, ek, hk, q⟩ := q4
  subst ex ek
  obtain rfl : v = Value.ref a := r1
  have I5 : Inv X pins σ H4 { s4 with heap := s4.heap.push { cls := .type "slice", data := .fields #[vl, vu, vs] } } := I4.kept (t' := s4.toks) fun b ob q => Heap.get?_push_of_some _ q
  obtain ⟨its, r, ht, hz⟩ := I5.list hq
  have hlen := r.length
  show wpAny (model X.prog X.w) X.A (subscriptTail e (.Slice lo hi (some se) p2) (.ref a) (.ref s4.heap.objs.size)) (EP X pins σ Q) X.xe { s4 with heap := s4.heap.push { cls := .type "slice", data := .fields #[vl, vu, vs] } }
  refine tail_any (ops := [.ref a, .ref s4.heap.objs.size]) ht.isList.typeIs slot_list_getitem.lookup ?_ (by with_unfolding_all rfl)
  refine wpAny_getItem_list_slice ht.isList (Heap.IsSliceOf.new ..) pl pu ps (by intro z; cases z; omega) ?_ (by rw [List.size_toArray] <;> omega)
  obtain ⟨ys, y1, y2, y3⟩ := picks r (sliceRange (sliceBounds l u (some k) its.toArray.size).1 (sliceBounds l u (some k) its.toArray.size).2.1 (sliceBounds l u (some k) its.toArray.size).2.2)
  have hle : (sliceRange (sliceBounds l u (some k) its.toArray.size).1 (sliceBounds l u (some k) its.toArray.size).2.1 (sliceBounds l u (some k) its.toArray.size).2.2).length ≤ its.toArray.size := by
    refine sliceRange_length_le _ _ _ _ (fun hp => ?_) (fun hn => ?_)
    · have hk' : (some k : Option Int).getD 1 > 0 := hk
      constructor
      · unfold sliceBounds
        simp only [hk', if_true]
        cases l with
        | none => simp
        | some i => exact Int.le_max_left _ _
      · unfold sliceBounds
        simp only [hk', if_true]
        cases u with
        | none => simp
        | some i => simp only; omega
    · exact absurd (show (sliceBounds l u (some k) its.toArray.size).2.2 > 0 from hk) hn
  have hyl : ys.length ≤ xs.length := Nat.le_trans y3 (Nat.le_trans hle (by rw [List.size_toArray, ← hlen] <;> exact Nat.le_refl _))
  refine ⟨.ref _, _, I5.laid (t' := s4.toks) (o := .lst ys) (fun b ob q => Heap.get?_push_of_some _ q) (Nat.le_refl _) ?_, rfl, q _ ys (I5.hok.fresh (Nat.le_refl _)) y2 hyl⟩
  exact ⟨Nat.le_trans hyl hz, _, 0, y1, Heap.get?_push_size _ rfl⟩
end

/-! ### sorted(d), keys ints, any number of them -/
section
variable {X : Cx}
def rSortedD : List V → Hp → VK → Prop := fun xs H Q => ∃ (a : Addr) (kvs : List (Key × V)) (ks : List Int), xs = [.ref a] ∧ Rd H a (.dK kvs) ∧ kvs.map (·.1) = ks.map Sum.inl ∧
    ∀ (ys : List Int) (p : Addr), ys.Perm ks → ys.Pairwise (· ≤ ·) → H p = none → Q (.ref p) (upd H p (.lst (ys.map V.int)))
theorem call_sortedAny (hcalm : X.calm = true) : CallR X (.builtin "sorted") rSortedD := by
  intro pins s σ H xs us Q I r q
  obtain ⟨a, kvs, ks, ex, hd, hks, q⟩ := q
  subst ex
  obtain ⟨u, eu, rx⟩ := vals1 r
  subst eu
  cases rx
  obtain ⟨z, lo, vs, rel, dd⟩ := dk_rd I.hok hd
  obtain ⟨ep, hat⟩ := dd.dictAt
  have hkeys : vs.map (·.1) = ks.map Sum.inl := rel.keys.symm.trans hks
  have hl : vs.length = ks.length := by
    have e := congrArg List.length hkeys
    rw [List.length_map, List.length_map] at e
    exact e
  have hzl : vs.length ≤ sizeLine := by rw [← rel.length]; exact z
  refine Calls.call_function_entry PyProof.Rows.kind_sorted PyProof.Rows.plain_sorted PyProof.Rows.entry_sorted (PyProof.Rows.args_sorted1 _) ?_
  unfold Builtin.«sorted»
  refine wpAny_bind (m := checkCount "sorted" 1 1 _) (wpAny_pure ?_)
  refine wpAny_bind (PySem.W.kdu_collect (A := X.A.in1) (PySem.W.kdl_dict (knd := mixKind X.prog X.w) (kvs := vs) (ep := ep) lo) (I.ok.hd hcalm) hat hzl fun h' tk acc hk hacc => ?_)
  have hal : acc.toList.length = ks.length := by rw [Array.length_toList, hacc.1, hl]
  have hS : IntsAre acc.toList ks := ints_each hal fun j v e => by
    obtain ⟨k, x, e1, e2⟩ := hacc.2 j v (by rw [← Array.getElem?_toList]; exact e)
    have e3 : (vs.map (·.1))[j]? = some k := by rw [List.getElem?_map, e1]; rfl
    rw [hkeys, List.getElem?_map] at e3
    cases e4 : ks[j]? with
    | none => rw [e4] at e3; cases e3
    | some y =>
      rw [e4] at e3
      have e5 : Sum.inl y = k := Option.some.inj e3
      subst e5
      rcases keyIs_shape (show keyIs (Sum.inl y) v = true from e2) with ⟨i, t, ek, ev⟩ | ⟨z, t, ek, ev⟩
      · cases ek
        exact ⟨y, t, rfl, ev⟩
      · cases ek
  have I1 : Inv X pins σ H { s with heap := h', toks := tk } := I.kept hk
  refine wpAny_bind (wpAny_newList ?_ (by rw [hal, ← hl]; exact hzl))
  have hoL : (h'.push (seqObj "list" acc.toList.toArray 0)).get? h'.objs.size = some (seqObj "list" acc.toList.toArray 0) := Heap.get?_push_size _ rfl
  show wpAny _ _ _ _ _ { s with heap := h'.push (seqObj "list" acc.toList.toArray 0), toks := tk }
  refine wpAny_bind (wpAny_holding (wpAny_call_entry PyProof.Rows.slot_list_sort ⟨_, hoL, rfl⟩ PyProof.Rows.entry_list_sort
    (SrtO.list_sort_ord (s := { s with heap := h'.push (seqObj "list" acc.toList.toArray 0), toks := tk }) SrtO.swo_int hoL (by rw [hal, ← hl]; exact hzl) (fun h2 => SrtO.ints_sortable hS h2) fun out h1 h2 => ⟨_, rfl, ?_⟩) (PyProof.Rows.args_list_sort _)))
  obtain ⟨g1, g2, g3⟩ := SrtO.ints_out hS h1 h2
  obtain ⟨e', he'⟩ := PyProof.Rows.sortedHeap_at (vs := acc.toList) (out := out.toArray) hoL
  have hlen : ((out.map SrtO.iv).map V.int).length ≤ sizeLine := by
    rw [List.length_map, g2.length_eq, ← hl]
    exact hzl
  refine wpAny_pure ⟨_, rfl, .ref h'.objs.size, upd H h'.objs.size (.lst ((out.map SrtO.iv).map V.int)), I1.laid (t' := tk) (fun b u e => ?_) (Nat.le_refl _)
    (show ObjOk X.prog X.w _ _ _ (.lst ((out.map SrtO.iv).map V.int)) from ⟨hlen, out, e', vals_of_ints g1, he'⟩), rfl, q _ _ g2 g3 (I1.hok.fresh (Nat.le_refl _))⟩
  have hb : b < h'.objs.size := Heap.lt_size e
  rw [PyProof.Rows.sortedHeap_old (Nat.ne_of_lt hb) (by rw [size_push']; exact Nat.lt_succ_of_lt hb)]
  exact Heap.get?_push_of_some _ e
end

/-! ### zip of two tuples, any lengths -/
theorem for_zipAny {K : PySem.W.Frag} {a b : Addr} {xs ys : List V} {g : TG} {tb : TS} {D : Ends} {σ : L2.St} {H : Hp} (Pv : Nat → L2.St → Hp → Prop) (h0 : Pv 0 σ H) (hq : ∀ i σ H, Pv i σ H → SqT K H a xs ∧ SqT K H b ys)
    (hs : ∀ (i : Nat) (x y : V) (T : Addr) (σ : L2.St) (H : Hp), xs[i]? = some x → ys[i]? = some y → Pv i σ H → H T = none → g (.ref T) σ (upd H T (.tup [x, y])) fun σ2 H2 => tb { D with nx := Pv (i + 1), ct := Pv (i + 1), bk := D.nx } σ2 H2)
    (hd : ∀ σ H, Pv (min xs.length ys.length) σ H → D.nx σ H) :
    ∃ W : Nat → Nat → L2.St → Hp → Prop, (∃ m, W 0 m σ H) ∧ ∀ i m σ H, W i m σ H →
      ((RZ.ItzT K a b).stop i H ∧ D.nx σ H) ∨ ((RZ.ItzT K a b).go i H ∧ ∃ N : L2.St → Hp → Prop, (∀ σ' H', N σ' H' → ∃ m', m' < m ∧ W (i + 1) m' σ' H') ∧ ∀ v H', (RZ.ItzT K a b).yld i H v H' → g v σ H' fun σ2 H2 => tb { D with nx := N, ct := N, bk := D.nx } σ2 H2) := by
  refine ⟨fun i m σ H => m = min xs.length ys.length - i ∧ i ≤ min xs.length ys.length ∧ Pv i σ H, ⟨_, rfl, Nat.zero_le _, h0⟩, ?_⟩
  rintro i m σ H ⟨rfl, hi, p⟩
  obtain ⟨qx, qy⟩ := hq i σ H p
  by_cases hlt : i < min xs.length ys.length
  · have h1 : i < xs.length := by omega
    have h2 : i < ys.length := by omega
    refine .inr ⟨⟨xs, ys, _, _, qx, qy, List.getElem?_eq_getElem h1, List.getElem?_eq_getElem h2⟩, Pv (i + 1), fun σ' H' p' => ⟨min xs.length ys.length - (i + 1), by omega, rfl, hlt, p'⟩, fun v H' y => ?_⟩
    obtain ⟨T, x', y', rfl, hT, rfl, f1, f2⟩ := y
    exact hs i x' y' T σ H (f1 xs qx) (f2 ys qy) p hT
  · have e : i = min xs.length ys.length := by omega
    subst e
    refine .inl ⟨⟨xs, ys, qx, qy, ?_⟩, hd σ H p⟩
    omega
end Ls
set_option Elab.async false
set_option linter.all false
set_option maxRecDepth 100000
set_option maxHeartbeats 4000000
/-! The text's defs; promises of any defs; calls of them. -/
namespace Wk
open PySem PySem.Spec PyProof.Rows L2 Pv Ph
/-! ### the text -/
def top (i : Nat) : Stmt := PySem.Challenge.pw_papervault_k42_papers_checked.main.body.getD i (.Pass ⟨0, 0, 0, 0⟩)
def inner (s : Stmt) (j : Nat) : Stmt := match s with
  | .ClassDef _ _ _ b _ _ _ _ _ _ _ => b.getD j (.Pass ⟨0, 0, 0, 0⟩)
  | _ => .Pass ⟨0, 0, 0, 0⟩
/-- the module's x stands there -/
abbrev ad (K : PySem.W.Frag) (x : Str) : Addr := He.ga K x
/-- the method m of the class C -/
abbrev am (K : PySem.W.Frag) (C m : Str) : Addr := He.ma K (He.ga K C) m
/-- the def st stands at f -/
def Df (K : PySem.W.Frag) (st : Stmt) (x qual : Str) (f : Addr) : Prop := ∃ fd, FunD K x qual (defArgs st) (defBody st) (defScope st) [] [] f fd
/-- the module's x is the object at ad K x, which may be called -/
structure Gb (K : PySem.W.Frag) (mg : Str → Option Value) (x : Str) : Prop where
  g : mg x = some (.ref (ad K x))
  k : PySem.W.keepIn K (.ref (ad K x)) = true

/-! ### promises -/
structure Fo (P : Program) (w : World) (K : PySem.W.Frag) (mg : Str → Option Value) (base : Heap) (CX : CXT) (k : Nat) (f : Addr) (sp : Sp) : Prop where
  ex : ∃ fd ps, FnOk P w K mg base CX k f fd ps sp ∧ Binds K fd ps []
  kp : PySem.W.keepIn K (.ref f) = true
theorem Fo.mono {P : Program} {w : World} {K : PySem.W.Frag} {mg : Str → Option Value} {base : Heap} {CX : CXT} {j k : Nat} {f : Addr} {sp : Sp} (F : Fo P w K mg base CX j f sp) (h : j ≤ k) : Fo P w K mg base CX k f sp := by
  obtain ⟨⟨fd, ps, F1, b⟩, kp⟩ := F
  exact ⟨⟨fd, ps, F1.mono h, b⟩, kp⟩
theorem Fo.imp {P : Program} {w : World} {K : PySem.W.Frag} {mg : Str → Option Value} {base : Heap} {CX : CXT} {k : Nat} {f : Addr} {sp sp' : Sp} (F : Fo P w K mg base CX k f sp) (h : ∀ vs H Q E, sp' vs H Q E → sp vs H Q E) : Fo P w K mg base CX k f sp' := by
  obtain ⟨⟨fd, ps, F1, b⟩, kp⟩ := F
  exact ⟨⟨fd, ps, F1.imp h, b⟩, kp⟩
theorem Df.ok {P : Program} {w : World} {K : PySem.W.Frag} {mg : Str → Option Value} {base : Heap} {CX : CXT} {N ps : List Str} {k : Nat} {sp : Sp} {st : Stmt} {x qual : Str} {f : Addr} (D : Df K st x qual f) (S : FnScope N ps (defScope st))
    (hb : ∀ (kV doc pm : Value) (an : Option Addr) (cdv ct : Value) (us : List Value), us.length = ps.length → bindArgs (PySem.W.fnOf x qual (defArgs st) (defBody st) (defScope st) .none kV doc pm an cdv ct) ⟨us, []⟩ = pure (ps.zip us))
    (len : ∀ vs H Q E, sp vs H Q E → vs.length = ps.length)
    (hbody : ∀ (cdv : Value) (A : Around) (outer : List Env) (s : Shared) (H : Hp) (vs : List V) (Q : VK) (E : XK), Room k (A.deeper (envOfC qual (defScope st) s.heap.objs.size f cdv)) → sp vs H Q E →
      ∃ t, PSs (cxOf CX P w K mg base N qual (defScope st) f cdv A outer s H E) (defBody st) t ∧ t { nx := fun _ H' => Q .non H', rt := Q } (start N vs) H) : Fo P w K mg base CX (k + 1) f sp := by
  obtain ⟨fd, F⟩ := D
  exact ⟨⟨fd, ps, F.ok S len hbody, F.bindsN hb⟩, F.kp⟩

/-! ### calls -/
def tF (sp : Sp) (E : XK) (t : TA) : TE := fun σ H Q => t σ H fun vs H1 => sp vs H1 Q E
def tM (C : Addr) (m : Str) (sp : Sp) (E : XK) (ta : TE) (t : TA) : TE := fun σ H Q => ta σ H fun x H1 => ∃ a dx fs, x = .ref a ∧ H1 a = some (.ins C dx fs) ∧ fs.lookup m = none ∧ t σ H1 fun vs H2 => sp (x :: vs) H2 Q E
def tMk (C : Addr) (sp : Sp) (E : XK) (t : TA) : TE := fun σ H Q => t σ H fun vs H1 => ∀ x dx, H1 x = none → H1 dx = none → dx ≠ x →
  sp (.ref x :: vs) (upd (upd H1 dx (.own x)) x (.ins C dx [])) (fun v H2 => v = .non ∧ Q (.ref x) H2) E
def tCl (C : Addr) (sp : Sp) (E : XK) (ta : TE) (t : TA) : TE := fun σ H Q => ta σ H fun x H1 => x = .ref C ∧ t σ H1 fun vs H2 => sp vs H2 Q E
theorem PE.as {X : Cx} {e : Expr} {t t' : TE} (h : PE X e t) (i : ∀ σ H Q, t' σ H Q → t σ H Q) : PE X e t' := ⟨fun pins s σ H Q I q => h.run pins s σ H Q I (i σ H Q q)⟩
theorem TA.app {X : Cx} {es : List Expr} {t : TA} (h : PA X es t) {σ : L2.St} {H : Hp} {Q Q' : List V → Hp → Prop} (e : Q = Q') (q : t σ H Q) : t σ H Q' := e ▸ q
section
variable {X : Cx} {CX : CXT} {k : Nat} {f C : Addr} {sp : Sp} {E : XK} {x m : Str} {p pos apos : Pos} {e o : Expr} {es : List Expr} {ta : TE} {t : TA} {mc : Value}
theorem pe_fn (F : Fo X.prog X.w X.K X.mg X.base CX k f sp) (hr : Room k X.A) (hg : Gl X x) (hm : X.mg x = some (.ref f)) (hx : Passes CX X E)
    (ha : PA X (e :: es) t) (hdb : (x == ("__debug__" : Str)) = false := by decide) (he : starEach (e :: es) X.env = (false, eval e X.env) :: starEach es X.env := by rfl) (hpl : (backTo pos (starEach es X.env)).any (·.1) = false := by rfl) :
    PE X (.Call (.Name x p) (e :: es) [] pos) (tF sp E t) := by
  obtain ⟨⟨fd, ps, F1, b⟩, kp⟩ := F
  refine PE.as (pe_call F1 hr hg hm kp b .nil hx ha hdb he hpl) fun σ H Q q => ?_
  have e : (fun (vs : List V) (H1 : Hp) => sp vs H1 Q E) = fun vs H1 => sp (vs ++ []) H1 Q E := by funext vs H1; rw [List.append_nil]
  show t σ H fun vs H1 => sp (vs ++ []) H1 Q E
  rw [← e]
  exact q
theorem pe_mt {pl : Sem Bool} (F : Fo X.prog X.w X.K X.mg X.base CX k f sp) (hr : Room k X.A) (he : PE X o ta) (c : Cls X.K C) (hm : Meth X.K C m f) (hx : Passes CX X E) (ha : PA X (e :: es) t)
    (hst : starEach (e :: es) X.env = (false, eval e X.env) :: starEach es X.env := by rfl) (hpl : (backTo pos (starEach es X.env)).any (·.1) = false := by rfl)
    (ht : eval (.Call (.Attribute o m apos) (e :: es) [] pos) X.env = (do
      let ov ← eval o X.env
      standAt apos.atName
      let (f, first) ← holding [ov] (getMethod ov m pl)
      callWith pos f first (backTo pos (starEach (e :: es) X.env)) (backToKw pos (keywordEach [] X.env))) := by rfl) :
    PE X (.Call (.Attribute o m apos) (e :: es) [] pos) (tM C m sp E ta t) := by
  obtain ⟨⟨fd, ps, F1, b⟩, kp⟩ := F
  refine PE.as (pe_meth he c hm F1 hr b .nil hx ha hst hpl ht) fun σ H Q q => ?_
  have e : (fun (x : V) (vs : List V) (H1 : Hp) => sp (x :: vs) H1 Q E) = fun x vs H1 => sp (x :: (vs ++ [])) H1 Q E := by funext x vs H1; rw [List.append_nil]
  have q' : ta σ H fun x H1 => ∃ a dx fs, x = .ref a ∧ H1 a = some (.ins C dx fs) ∧ fs.lookup m = none ∧ t σ H1 fun vs H2 => (fun (x : V) (vs : List V) (H1 : Hp) => sp (x :: vs) H1 Q E) x vs H2 := q
  rw [e] at q'
  exact q'
theorem pe_mt0 {pl : Sem Bool} (F : Fo X.prog X.w X.K X.mg X.base CX k f sp) (hr : Room k X.A) (he : PE X o ta) (c : Cls X.K C) (hm : Meth X.K C m f) (hx : Passes CX X E)
    (ht : eval (.Call (.Attribute o m apos) [] [] pos) X.env = (do
      let ov ← eval o X.env
      standAt apos.atName
      let (f, first) ← holding [ov] (getMethod ov m pl)
      callWith pos f first (backTo pos (starEach [] X.env)) (backToKw pos (keywordEach [] X.env))) := by rfl) :
    PE X (.Call (.Attribute o m apos) [] [] pos) (tM C m sp E ta tNil) := by
  obtain ⟨⟨fd, ps, F1, b⟩, kp⟩ := F
  exact pe_meth0 he c hm F1 hr b .nil hx ht
theorem pe_mk (M : Mk X.K C f) (F : Fo X.prog X.w X.K X.mg X.base CX k f sp) (hr : Room (k + 1) X.A) (hg : Gl X x) (hm : X.mg x = some (.ref C)) (hx : Passes CX X E) (ha : PA X (e :: es) t)
    (hdb : (x == ("__debug__" : Str)) = false := by decide) (he : starEach (e :: es) X.env = (false, eval e X.env) :: starEach es X.env := by rfl) (hpl : (backTo pos (starEach es X.env)).any (·.1) = false := by rfl) :
    PE X (.Call (.Name x p) (e :: es) [] pos) (tMk C sp E t) := by
  obtain ⟨⟨fd, ps, F1, b⟩, kp⟩ := F
  refine PE.as (pe_make M F1 hr hg hm b .nil hx ha hdb he hpl) fun σ H Q q => ?_
  have e : (fun (x : V) (vs : List V) (H1 : Hp) => sp (x :: vs) H1) = fun x vs H1 => sp (x :: (vs ++ [])) H1 := by funext x vs H1; rw [List.append_nil]
  have q' : t σ H fun vs H1 => ∀ x dx, H1 x = none → H1 dx = none → dx ≠ x → (fun (x : V) (vs : List V) (H1 : Hp) => sp (x :: vs) H1) (.ref x) vs (upd (upd H1 dx (.own x)) x (.ins C dx [])) (fun v H2 => v = .non ∧ Q (.ref x) H2) E := q
  rw [e] at q'
  exact q'
theorem pe_mk0 (M : Mk X.K C f) (F : Fo X.prog X.w X.K X.mg X.base CX k f sp) (hr : Room (k + 1) X.A) (hg : Gl X x) (hm : X.mg x = some (.ref C)) (hx : Passes CX X E)
    (hdb : (x == ("__debug__" : Str)) = false := by decide) : PE X (.Call (.Name x p) [] [] pos) (tMk C sp E tNil) := by
  obtain ⟨⟨fd, ps, F1, b⟩, kp⟩ := F
  exact pe_make0 M F1 hr hg hm b .nil hx hdb
theorem pe_cl {pl : Sem Bool} (F : Fo X.prog X.w X.K X.mg X.base CX k f sp) (hr : Room k X.A) (he : PE X o ta) (r : ClX.CRead X.K C mc) (at_ : PySem.W.findCls X.K (.ref C) mc m = some (.val (.ref f))) (hx : Passes CX X E) (ha : PA X (e :: es) t)
    (hst : starEach (e :: es) X.env = (false, eval e X.env) :: starEach es X.env := by rfl) (hpl : (backTo pos (starEach es X.env)).any (·.1) = false := by rfl)
    (ht : eval (.Call (.Attribute o m apos) (e :: es) [] pos) X.env = (do
      let ov ← eval o X.env
      standAt apos.atName
      let (f, first) ← holding [ov] (getMethod ov m pl)
      callWith pos f first (backTo pos (starEach (e :: es) X.env)) (backToKw pos (keywordEach [] X.env))) := by rfl) :
    PE X (.Call (.Attribute o m apos) (e :: es) [] pos) (tCl C sp E ta t) := by
  obtain ⟨⟨fd, ps, F1, b⟩, kp⟩ := F
  refine PE.as (Rl.pe_clsf he r at_ kp F1 hr b .nil hx ha hst hpl ht) fun σ H Q q => ?_
  have e : (fun (vs : List V) (H1 : Hp) => sp vs H1 Q E) = fun vs H1 => sp (vs ++ []) H1 Q E := by funext vs H1; rw [List.append_nil]
  have q' : ta σ H fun x H1 => x = .ref C ∧ t σ H1 fun vs H2 => (fun (vs : List V) (H1 : Hp) => sp vs H1 Q E) vs H2 := q
  rw [e] at q'
  exact q'
end
/-- in the body of a def that may let out an exception -/
theorem passX {P : Program} {w : World} {K : PySem.W.Frag} {mg : Str → Option Value} {base : Heap} {N : List Str} {qual : Str} {scope : Scope} {f : Addr} {cdv : Value} {A : Around} {outer : List Env} {s : Shared} {H : Hp} {E : XK} :
    Passes (L2.CX P w) (cxOf (L2.CX P w) P w K mg base N qual scope f cdv A outer s H E) E := passes_call (W := fun cls d _ H => E cls d H) (takes_of rfl rfl rfl rfl) fun _ _ _ _ h => h
theorem ownX {P : Program} {w : World} {K : PySem.W.Frag} {mg : Str → Option Value} {base : Heap} {N : List Str} {qual : Str} {scope : Scope} {f : Addr} {cdv : Value} {A : Around} {outer : List Env} {s : Shared} {H : Hp} {E : XK} :
    PassesOwn (model (cxOf (L2.CX P w) P w K mg base N qual scope f cdv A outer s H E).prog (cxOf (L2.CX P w) P w K mg base N qual scope f cdv A outer s H E).w) (cxOf (L2.CX P w) P w K mg base N qual scope f cdv A outer s H E).A
      (cxOf (L2.CX P w) P w K mg base N qual scope f cdv A outer s H E).env (cxOf (L2.CX P w) P w K mg base N qual scope f cdv A outer s H E).xe := passes_of rfl
theorem takeX {P : Program} {w : World} {K : PySem.W.Frag} {mg : Str → Option Value} {base : Heap} {N : List Str} {qual : Str} {scope : Scope} {f : Addr} {cdv : Value} {A : Around} {outer : List Env} {s : Shared} {H : Hp} {E : XK} :
    Takes (cxOf (L2.CX P w) P w K mg base N qual scope f cdv A outer s H E) (fun cls d _ H => E cls d H) := takes_of rfl rfl rfl rfl
end Wk
set_option Elab.async false
set_option linter.all false
set_option maxRecDepth 100000
set_option maxHeartbeats 4000000
/-! What the walk asks of the written part. -/
namespace Wk
open PySem PySem.Spec PyProof.Rows L2 Pv Ph
/-- a function that is a class's method, or inherited -/
structure Mt (K : PySem.W.Frag) (C m D : Str) : Prop where
  at_ : PySem.W.findIn K (.ref (ad K C)) m = some (some (.ref (am K D m)))
  fn : PySem.W.isFn K (.ref (am K D m)) = true
  kp : PySem.W.keepIn K (.ref (am K D m)) = true
theorem Mt.meth {K : PySem.W.Frag} {C m D : Str} (x : Mt K C m D) : Meth K (ad K C) m (am K D m) := ⟨x.at_, x.fn, x.kp⟩
/-- C() with D's __init__ -/
structure Mi (K : PySem.W.Frag) (C D : Str) : Prop where
  makes : PySem.W.makesIn K (ad K C) = true
  init : PySem.W.findIn K (.ref (ad K C)) "__init__" = some (some (.ref (am K D "__init__")))
  fn : PySem.W.isFn K (.ref (am K D "__init__")) = true
  kp : PySem.W.keepIn K (.ref (ad K C)) = true
theorem Mi.mk_ {K : PySem.W.Frag} {C D : Str} (x : Mi K C D) : Mk K (ad K C) (am K D "__init__") := ⟨x.makes, x.init, x.fn, x.kp⟩
/-- a class whose attributes are read as usual -/
structure Cr (K : PySem.W.Frag) (C : Str) : Prop where
  rd : PySem.W.readsIn K (ad K C) (.type "type") = true
  ga : PySem.W.specialIn K (.ref (ad K C)) "__getattribute__" = some (some (.builtin "type.__getattribute__"))
theorem Cr.rd_ {K : PySem.W.Frag} {C : Str} (x : Cr K C) : ClX.CRead K (ad K C) (.type "type") := ⟨x.rd, x.ga⟩
def excClsB (K : PySem.W.Frag) (C : Addr) : Bool := match K.lookup C with
  | some ⟨.type "type", _, .cls cd, sl⟩ => (match cd.mro, sl.toList with
    | .ref C' :: bm, [_, _, _, _, some (.builtin n), _] => C' == C && n == "ValueError.__new__" && !cd.hasDel && cd.hasDict && PySem.HandSPX.refsVE bm
    | _, _ => false)
  | _ => false

structure Tx (K : PySem.W.Frag) (mg : Str → Option Value) : Prop where
  d_Clash_init : Df K (inner (top 5) 0) "__init__" "Clash.__init__" (am K "Clash" "__init__")
  d_text_codes : Df K (top 23) "text_codes" "text_codes" (ad K "text_codes")
  b_text_codes : Gb K mg "text_codes"
  d_codes_of : Df K (top 24) "codes_of" "codes_of" (ad K "codes_of")
  b_codes_of : Gb K mg "codes_of"
  d_seal : Df K (top 25) "seal" "seal" (ad K "seal")
  b_seal : Gb K mg "seal"
  d_is_number : Df K (top 31) "is_number" "is_number" (ad K "is_number")
  b_is_number : Gb K mg "is_number"
  d_is_text : Df K (top 32) "is_text" "is_text" (ad K "is_text")
  b_is_text : Gb K mg "is_text"
  d_is_within_things : Df K (top 33) "is_within" "is_within" (ad K "is_within_things")
  b_is_within_things : Gb K mg "is_within_things"
  d_is_thing : Df K (top 35) "is_thing" "is_thing" (ad K "is_thing")
  b_is_thing : Gb K mg "is_thing"
  d_kind_of : Df K (top 36) "kind_of" "kind_of" (ad K "kind_of")
  b_kind_of : Gb K mg "kind_of"
  d_side_of : Df K (top 37) "side_of" "side_of" (ad K "side_of")
  b_side_of : Gb K mg "side_of"
  d_ahead : Df K (top 38) "ahead" "ahead" (ad K "ahead")
  b_ahead : Gb K mg "ahead"
  d_Vault_init : Df K (inner (top 40) 0) "__init__" "Vault.__init__" (am K "Vault" "__init__")
  d_Vault_lay : Df K (inner (top 40) 1) "lay" "Vault.lay" (am K "Vault" "lay")
  d_Vault_thing : Df K (inner (top 40) 2) "thing" "Vault.thing" (am K "Vault" "thing")
  d_Vault_has : Df K (inner (top 40) 3) "has" "Vault.has" (am K "Vault" "has")
  d_Keeper_things : Df K (inner (top 41) 0) "things" "Keeper.things" (am K "Keeper" "things")
  d_Reader_init : Df K (inner (top 42) 0) "__init__" "Reader.__init__" (am K "Reader" "__init__")
  d_Reader_lay : Df K (inner (top 42) 1) "lay" "Reader.lay" (am K "Reader" "lay")
  d_Reader_thing : Df K (inner (top 42) 2) "thing" "Reader.thing" (am K "Reader" "thing")
  d_Reader_paper : Df K (inner (top 42) 3) "paper" "Reader.paper" (am K "Reader" "paper")
  d_Witness_init : Df K (inner (top 43) 0) "__init__" "Witness.__init__" (am K "Witness" "__init__")
  d_answer_with_paper : Df K (top 45) "answer_with_paper" "answer_with_paper" (ad K "answer_with_paper")
  b_answer_with_paper : Gb K mg "answer_with_paper"
  d_checked : Df K (top 46) "checked" "checked" (ad K "checked")
  b_checked : Gb K mg "checked"
  d_is_whole : Df K (top 49) "is_whole" "is_whole" (ad K "is_whole")
  b_is_whole : Gb K mg "is_whole"
  d_is_node : Df K (top 50) "is_node" "is_node" (ad K "is_node")
  b_is_node : Gb K mg "is_node"
  d_node_at : Df K (top 51) "node_at" "node_at" (ad K "node_at")
  b_node_at : Gb K mg "node_at"
  d_node_beneath : Df K (top 52) "node_beneath" "node_beneath" (ad K "node_beneath")
  b_node_beneath : Gb K mg "node_beneath"
  d_size : Df K (top 53) "size" "size" (ad K "size")
  b_size : Gb K mg "size"
  d_size_beneath : Df K (top 54) "size_beneath" "size_beneath" (ad K "size_beneath")
  b_size_beneath : Gb K mg "size_beneath"
  d_rank : Df K (top 55) "rank" "rank" (ad K "rank")
  b_rank : Gb K mg "rank"
  d_above : Df K (top 56) "above" "above" (ad K "above")
  b_above : Gb K mg "above"
  d_found : Df K (top 59) "found" "found" (ad K "found")
  b_found : Gb K mg "found"
  d_goes_left : Df K (top 60) "goes_left" "goes_left" (ad K "goes_left")
  b_goes_left : Gb K mg "goes_left"
  d_goes_right : Df K (top 61) "goes_right" "goes_right" (ad K "goes_right")
  b_goes_right : Gb K mg "goes_right"
  d_is_within_trees : Df K (top 62) "is_within" "is_within" (ad K "is_within_trees")
  b_is_within_trees : Gb K mg "is_within_trees"
  d_need_counted : Df K (top 64) "need_counted" "need_counted" (ad K "need_counted")
  b_need_counted : Gb K mg "need_counted"
  d_is_empty : Df K (top 65) "is_empty" "is_empty" (ad K "is_empty")
  b_is_empty : Gb K mg "is_empty"
  d_stretch : Df K (top 66) "stretch" "stretch" (ad K "stretch")
  b_stretch : Gb K mg "stretch"
  d_ahead_of : Df K (top 67) "ahead_of" "ahead_of" (ad K "ahead_of")
  b_ahead_of : Gb K mg "ahead_of"
  d_counted : Df K (top 68) "counted" "counted" (ad K "counted")
  b_counted : Gb K mg "counted"
  d_nth : Df K (top 69) "nth" "nth" (ad K "nth")
  b_nth : Gb K mg "nth"
  d_part : Df K (top 70) "part" "part" (ad K "part")
  b_part : Gb K mg "part"
  d_joined : Df K (top 71) "joined" "joined" (ad K "joined")
  b_joined : Gb K mg "joined"
  d_rebuilt : Df K (top 72) "rebuilt" "rebuilt" (ad K "rebuilt")
  b_rebuilt : Gb K mg "rebuilt"
  d_put : Df K (top 73) "put" "put" (ad K "put")
  b_put : Gb K mg "put"
  d_cut : Df K (top 74) "cut" "cut" (ad K "cut")
  b_cut : Gb K mg "cut"
  d_Find_init : Df K (inner (top 77) 0) "__init__" "Find.__init__" (am K "Find" "__init__")
  d_Find_answer : Df K (inner (top 77) 1) "answer" "Find.answer" (am K "Find" "answer")
  d_Stretch_init : Df K (inner (top 78) 0) "__init__" "Stretch.__init__" (am K "Stretch" "__init__")
  d_Stretch_answer : Df K (inner (top 78) 1) "answer" "Stretch.answer" (am K "Stretch" "answer")
  d_Count_init : Df K (inner (top 79) 0) "__init__" "Count.__init__" (am K "Count" "__init__")
  d_Count_answer : Df K (inner (top 79) 1) "answer" "Count.answer" (am K "Count" "answer")
  d_Nth_init : Df K (inner (top 80) 0) "__init__" "Nth.__init__" (am K "Nth" "__init__")
  d_Nth_answer : Df K (inner (top 80) 1) "answer" "Nth.answer" (am K "Nth" "answer")
  d_Put_init : Df K (inner (top 81) 0) "__init__" "Put.__init__" (am K "Put" "__init__")
  d_Put_answer : Df K (inner (top 81) 1) "answer" "Put.answer" (am K "Put" "answer")
  d_Cut_init : Df K (inner (top 82) 0) "__init__" "Cut.__init__" (am K "Cut" "__init__")
  d_Cut_answer : Df K (inner (top 82) 1) "answer" "Cut.answer" (am K "Cut" "answer")
  d_Also_init : Df K (inner (top 83) 0) "__init__" "Also.__init__" (am K "Also" "__init__")
  d_Also_answer : Df K (inner (top 83) 1) "answer" "Also.answer" (am K "Also" "answer")
  d__law_row : Df K (top 85) "_law_row" "_law_row" (ad K "_law_row")
  b__law_row : Gb K mg "_law_row"
  d__law_take : Df K (top 86) "_law_take" "_law_take" (ad K "_law_take")
  b__law_take : Gb K mg "_law_take"
  d__law_text : Df K (top 87) "_law_text" "_law_text" (ad K "_law_text")
  b__law_text : Gb K mg "_law_text"
  d__law_thing : Df K (top 88) "_law_thing" "_law_thing" (ad K "_law_thing")
  b__law_thing : Gb K mg "_law_thing"
  d__law_first : Df K (top 89) "_law_first" "_law_first" (ad K "_law_first")
  b__law_first : Gb K mg "_law_first"
  d__law_some : Df K (top 90) "_law_some" "_law_some" (ad K "_law_some")
  b__law_some : Gb K mg "_law_some"
  d__law_grown : Df K (top 92) "_law_grown" "_law_grown" (ad K "_law_grown")
  b__law_grown : Gb K mg "_law_grown"
  d__law_key : Df K (top 94) "_law_key" "_law_key" (ad K "_law_key")
  b__law_key : Gb K mg "_law_key"
  d__law_ask : Df K (top 95) "_law_ask" "_law_ask" (ad K "_law_ask")
  b__law_ask : Gb K mg "_law_ask"
  d__law_lacks : Df K (top 96) "_law_lacks" "_law_lacks" (ad K "_law_lacks")
  b__law_lacks : Gb K mg "_law_lacks"
  d__law_copy : Df K (top 97) "_law_copy" "_law_copy" (ad K "_law_copy")
  b__law_copy : Gb K mg "_law_copy"
  d__law_paper_right : Df K (top 98) "_law_paper_right" "_law_paper_right" (ad K "_law_paper_right")
  b__law_paper_right : Gb K mg "_law_paper_right"
  d__law_others : Df K (top 99) "_law_others" "_law_others" (ad K "_law_others")
  b__law_others : Gb K mg "_law_others"
  d__law_own : Df K (top 100) "_law_own" "_law_own" (ad K "_law_own")
  b__law_own : Gb K mg "_law_own"
  d__law_right : Df K (top 101) "_law_right" "_law_right" (ad K "_law_right")
  b__law_right : Gb K mg "_law_right"
  d__law_held : Df K (top 102) "_law_held" "_law_held" (ad K "_law_held")
  b__law_held : Gb K mg "_law_held"
  d_law : Df K (top 103) "law" "law" (ad K "law")
  b_law : Gb K mg "law"
  i_MOST_SEAL : ∃ t, mg "MOST_SEAL" = some (.int 2305843009213693951 t)
  i_BASE : ∃ t, mg "BASE" = some (.int 1234567890123456789 t)
  i_BEGIN : ∃ t, mg "BEGIN" = some (.int 7 t)
  i_HALF : ∃ t, mg "HALF" = some (.int 1000000000000000 t)
  i_LEAST : ∃ t, mg "LEAST" = some (.int 1000000000000000000000000000000 t)
  i_MOST_NUMBER : ∃ t, mg "MOST_NUMBER" = some (.int 1000000000000000000000000000000 t)
  i_MOST_SIGNS : ∃ t, mg "MOST_SIGNS" = some (.int 60 t)
  i_MOST_THINGS : ∃ t, mg "MOST_THINGS" = some (.int 40 t)
  i_DEEPEST : ∃ t, mg "DEEPEST" = some (.int 5 t)
  i_MOST_NODES : ∃ t, mg "MOST_NODES" = some (.int 300 t)
  i_UNBOUND : ∃ t, mg "UNBOUND" = some (.int 301 t)
  n_len : mg "len" = none
  n_ord : mg "ord" = none
  n_range : mg "range" = none
  n_isinstance : mg "isinstance" = none
  n_int : mg "int" = none
  n_str : mg "str" = none
  n_bool : mg "bool" = none
  n_tuple : mg "tuple" = none
  n_list : mg "list" = none
  n_reversed : mg "reversed" = none
  n_zip : mg "zip" = none
  n_sorted : mg "sorted" = none
  n_ValueError : mg "ValueError" = none
  b_Vault : Gb K mg "Vault"
  b_Keeper : Gb K mg "Keeper"
  b_Reader : Gb K mg "Reader"
  b_Witness : Gb K mg "Witness"
  b_Find : Gb K mg "Find"
  b_Stretch : Gb K mg "Stretch"
  b_Count : Gb K mg "Count"
  b_Nth : Gb K mg "Nth"
  b_Put : Gb K mg "Put"
  b_Cut : Gb K mg "Cut"
  b_Also : Gb K mg "Also"
  b_NoPaper : Gb K mg "NoPaper"
  b_Clash : Gb K mg "Clash"
  b_BadThing : Gb K mg "BadThing"
  b_NoColumn : Gb K mg "NoColumn"
  b_NoCommand : Gb K mg "NoCommand"
  b_NoName : Gb K mg "NoName"
  b_NoPlan : Gb K mg "NoPlan"
  b_NoQuestion : Gb K mg "NoQuestion"
  b_NoRow : Gb K mg "NoRow"
  b_NoState : Gb K mg "NoState"
  b_NoStep : Gb K mg "NoStep"
  b_NoTable : Gb K mg "NoTable"
  b_NoThing : Gb K mg "NoThing"
  b_NotOn : Gb K mg "NotOn"
  b_NotSo : Gb K mg "NotSo"
  b_VaultError : Gb K mg "VaultError"
  c_Vault : Cls K (ad K "Vault")
  c_Keeper : Cls K (ad K "Keeper")
  c_Reader : Cls K (ad K "Reader")
  c_Witness : Cls K (ad K "Witness")
  c_Find : Cls K (ad K "Find")
  c_Stretch : Cls K (ad K "Stretch")
  c_Count : Cls K (ad K "Count")
  c_Nth : Cls K (ad K "Nth")
  c_Put : Cls K (ad K "Put")
  c_Cut : Cls K (ad K "Cut")
  c_Also : Cls K (ad K "Also")
  f_Vault_by_seal : PySem.W.findIn K (.ref (ad K "Vault")) "by_seal" = some none
  f_Keeper_by_seal : PySem.W.findIn K (.ref (ad K "Keeper")) "by_seal" = some none
  f_Witness_by_seal : PySem.W.findIn K (.ref (ad K "Witness")) "by_seal" = some none
  f_Reader_by_seal : PySem.W.findIn K (.ref (ad K "Reader")) "by_seal" = some none
  f_Reader_beneath : PySem.W.findIn K (.ref (ad K "Reader")) "beneath" = some none
  f_Reader_noted : PySem.W.findIn K (.ref (ad K "Reader")) "noted" = some none
  f_Find_key : PySem.W.findIn K (.ref (ad K "Find")) "key" = some none
  f_Stretch_low : PySem.W.findIn K (.ref (ad K "Stretch")) "low" = some none
  f_Stretch_high : PySem.W.findIn K (.ref (ad K "Stretch")) "high" = some none
  f_Count_low : PySem.W.findIn K (.ref (ad K "Count")) "low" = some none
  f_Count_high : PySem.W.findIn K (.ref (ad K "Count")) "high" = some none
  f_Nth_number : PySem.W.findIn K (.ref (ad K "Nth")) "number" = some none
  f_Put_key : PySem.W.findIn K (.ref (ad K "Put")) "key" = some none
  f_Put_worth : PySem.W.findIn K (.ref (ad K "Put")) "worth" = some none
  f_Cut_key : PySem.W.findIn K (.ref (ad K "Cut")) "key" = some none
  f_Also_asks : PySem.W.findIn K (.ref (ad K "Also")) "asks" = some none
  f_Clash_one : PySem.W.findIn K (.ref (ad K "Clash")) "one" = some none
  f_Clash_other : PySem.W.findIn K (.ref (ad K "Clash")) "other" = some none
  m_Vault_lay : Mt K "Vault" "lay" "Vault"
  m_Vault_thing : Mt K "Vault" "thing" "Vault"
  m_Vault_has : Mt K "Vault" "has" "Vault"
  m_Keeper_lay : Mt K "Keeper" "lay" "Vault"
  m_Keeper_thing : Mt K "Keeper" "thing" "Vault"
  m_Keeper_has : Mt K "Keeper" "has" "Vault"
  m_Keeper_things : Mt K "Keeper" "things" "Keeper"
  m_Witness_lay : Mt K "Witness" "lay" "Vault"
  m_Witness_thing : Mt K "Witness" "thing" "Vault"
  m_Witness_has : Mt K "Witness" "has" "Vault"
  m_Reader_lay : Mt K "Reader" "lay" "Reader"
  m_Reader_thing : Mt K "Reader" "thing" "Reader"
  m_Reader_has : Mt K "Reader" "has" "Vault"
  m_Reader_paper : Mt K "Reader" "paper" "Reader"
  m_Find_answer : Mt K "Find" "answer" "Find"
  m_Stretch_answer : Mt K "Stretch" "answer" "Stretch"
  m_Count_answer : Mt K "Count" "answer" "Count"
  m_Nth_answer : Mt K "Nth" "answer" "Nth"
  m_Put_answer : Mt K "Put" "answer" "Put"
  m_Cut_answer : Mt K "Cut" "answer" "Cut"
  m_Also_answer : Mt K "Also" "answer" "Also"
  k_Keeper : Mi K "Keeper" "Vault"
  k_Reader : Mi K "Reader" "Reader"
  k_Witness : Mi K "Witness" "Witness"
  k_Find : Mi K "Find" "Find"
  k_Stretch : Mi K "Stretch" "Stretch"
  k_Count : Mi K "Count" "Count"
  k_Nth : Mi K "Nth" "Nth"
  k_Put : Mi K "Put" "Put"
  k_Cut : Mi K "Cut" "Cut"
  k_Also : Mi K "Also" "Also"
  r_Vault : Cr K "Vault"
  r_VaultError : Cr K "VaultError"
  v_Vault_init : PySem.W.findCls K (.ref (ad K "Vault")) (.type "type") "__init__" = some (.val (.ref (am K "Vault" "__init__")))
  v_Vault_lay : PySem.W.findCls K (.ref (ad K "Vault")) (.type "type") "lay" = some (.val (.ref (am K "Vault" "lay")))
  v_Vault_thing : PySem.W.findCls K (.ref (ad K "Vault")) (.type "type") "thing" = some (.val (.ref (am K "Vault" "thing")))
  v_VaultError_init : PySem.W.findCls K (.ref (ad K "VaultError")) (.type "type") "__init__" = some (.val (.builtin "ValueError.__init__"))
  x_NoPaper : PySem.W.excIn K (ad K "NoPaper") He.veBase "ValueError.__new__" = true
  o_Clash : excClsB K (ad K "Clash") = true
  o_sa : PySem.W.findIn K (.ref (ad K "Clash")) "__setattr__" = some (some (.builtin "object.__setattr__"))
  o_in : PySem.W.findIn K (.ref (ad K "Clash")) "__init__" = some (some (.ref (am K "Clash" "__init__")))
  o_ty : PySem.W.typeIn K (.ref (am K "Clash" "__init__")) = some (.type "function")
  o_ga : PySem.W.findIn K (.ref (ad K "Clash")) "__getattribute__" = some (some (.builtin "BaseException.__getattribute__"))
  o_gg : PySem.W.findIn K (.ref (ad K "Clash")) "__getattr__" = some none
  o_hd : PySem.W.hasDictIn K (ad K "Clash") = true
  e_NoPaper : PySem.W.subIn K (.ref (ad K "NoPaper")) (.type "BaseException") = some true
  t_NoPaper : PySem.W.typeIn K (.ref (ad K "NoPaper")) = some (.type "type")
  e_Clash : PySem.W.subIn K (.ref (ad K "Clash")) (.type "BaseException") = some true
  t_Clash : PySem.W.typeIn K (.ref (ad K "Clash")) = some (.type "type")
  y_cc : PySem.W.exmOne K (.ref (ad K "Clash")) (.ref (ad K "Clash")) = some true
  y_nv : PySem.W.exmOne K (.ref (ad K "NoPaper")) (.ref (ad K "VaultError")) = some true
  p_g : PySem.W.findIn K (.ref (ad K "NoPaper")) "__getattribute__" = some (some (.builtin "BaseException.__getattribute__"))
  p_k : PySem.W.findIn K (.ref (ad K "NoPaper")) "__getattr__" = some none
  p_d : PySem.W.hasDictIn K (ad K "NoPaper") = true
  p_a : PySem.W.findIn K (.ref (ad K "NoPaper")) "__class__" = some (some (.builtin "object.__class__"))
  p_n : PySem.W.specialIn K (.builtin "object.__class__") "__get__" = some (some (.builtin "getset_descriptor.__get__"))
  p_t : PySem.W.takesIn K (.builtin "object.__class__") = some true
  p_m : PySem.W.mroIn K (ad K "NoPaper") (.type "object") = some true
  q_n : PySem.W.kitOne K (.ref (ad K "NoPaper")) (.ref (ad K "NoPaper")) = some true
  q_v : PySem.W.kitOne K (.ref (ad K "NoPaper")) (.type "ValueError") = some true
  q_9 : PySem.W.kitAny K (.ref (ad K "NoPaper")) [.ref (ad K "BadThing"), .ref (ad K "Clash"), .ref (ad K "NoColumn"), .ref (ad K "NoCommand"), .ref (ad K "NoName"), .ref (ad K "NoPlan"), .ref (ad K "NoQuestion"), .ref (ad K "NoRow"), .ref (ad K "NoState")] = some false
  q_5 : PySem.W.kitAny K (.ref (ad K "NoPaper")) [.ref (ad K "NoStep"), .ref (ad K "NoTable"), .ref (ad K "NoThing"), .ref (ad K "NotOn"), .ref (ad K "NotSo")] = some false
end Wk
set_option Elab.async false
set_option linter.all false
set_option maxRecDepth 100000
set_option maxHeartbeats 4000000
/-! Helpers of the walk. -/
namespace Wk
open PySem PySem.Spec PyProof.Rows L2 Pv Ph
/-! ### kinds of things -/
def isNone : Th → Bool
  | .none => true
  | _ => false
def isNum : Th → Bool
  | .num _ => true
  | _ => false
def isTx : Th → Bool
  | .text _ => true
  | _ => false
def isTp : Th → Bool
  | .tup _ => true
  | _ => false
def tyN : Th → String
  | .none => "NoneType"
  | .num _ => "int"
  | .text _ => "str"
  | .tup _ => "tuple"
theorem kitT (t : Th) : kitB (tyN t) "int" = some (isNum t) ∧ kitB (tyN t) "str" = some (isTx t) ∧ kitB (tyN t) "tuple" = some (isTp t) ∧ kitB (tyN t) "bool" = some false ∧ kitB (tyN t) "list" = some false := by
  cases t with
  | none => exact ⟨show kitB "NoneType" "int" = some false by decide +kernel, show kitB "NoneType" "str" = some false by decide +kernel, show kitB "NoneType" "tuple" = some false by decide +kernel, show kitB "NoneType" "bool" = some false by decide +kernel, show kitB "NoneType" "list" = some false by decide +kernel⟩
  | num i => exact ⟨show kitB "int" "int" = some true by decide +kernel, show kitB "int" "str" = some false by decide +kernel, show kitB "int" "tuple" = some false by decide +kernel, show kitB "int" "bool" = some false by decide +kernel, show kitB "int" "list" = some false by decide +kernel⟩
  | text x => exact ⟨show kitB "str" "int" = some false by decide +kernel, show kitB "str" "str" = some true by decide +kernel, show kitB "str" "tuple" = some false by decide +kernel, show kitB "str" "bool" = some false by decide +kernel, show kitB "str" "list" = some false by decide +kernel⟩
  | tup l => exact ⟨show kitB "tuple" "int" = some false by decide +kernel, show kitB "tuple" "str" = some false by decide +kernel, show kitB "tuple" "tuple" = some true by decide +kernel, show kitB "tuple" "bool" = some false by decide +kernel, show kitB "tuple" "list" = some false by decide +kernel⟩
theorem tyX {K : PySem.W.Frag} {H : Hp} {v : V} {t : Th} (h : IsT H v t) : TyX K H v (.type (tyN t)) := by
  cases h with
  | non => exact .base .non
  | int i => exact .base (.int i)
  | str x => exact .base (.str x)
  | tup h1 h2 => exact .base (.tup h1)
section
variable {K : PySem.W.Frag} {H : Hp} {v : V} {t : Th} {Q : VK}
theorem isi_int (h : IsT H v t) (q : Q (.bl (isNum t)) H) : rIsi K [v, .ty "int"] H Q := ⟨v, .ty "int", _, _, _, rfl, .ty "int", tyX h, kit_ty (kitT t).1, q⟩
theorem isi_str (h : IsT H v t) (q : Q (.bl (isTx t)) H) : rIsi K [v, .ty "str"] H Q := ⟨v, .ty "str", _, _, _, rfl, .ty "str", tyX h, kit_ty (kitT t).2.1, q⟩
theorem isi_tuple (h : IsT H v t) (q : Q (.bl (isTp t)) H) : rIsi K [v, .ty "tuple"] H Q := ⟨v, .ty "tuple", _, _, _, rfl, .ty "tuple", tyX h, kit_ty (kitT t).2.2.1, q⟩
theorem isi_bool (h : IsT H v t) (q : Q (.bl false) H) : rIsi K [v, .ty "bool"] H Q := ⟨v, .ty "bool", _, _, _, rfl, .ty "bool", tyX h, kit_ty (kitT t).2.2.2.1, q⟩
theorem isi_list (h : IsT H v t) (q : Q (.bl false) H) : rIsi K [v, .ty "list"] H Q := ⟨v, .ty "list", _, _, _, rfl, .ty "list", tyX h, kit_ty (kitT t).2.2.2.2, q⟩
theorem dec_non (h : IsT H v t) : decide (v = .non) = isNone t := by
  cases h <;> simp [isNone]
end
/-! ### heaps -/
theorem same_put {H H' : Hp} {p : Addr} {o : HO} (s : Same H H') (h : H p = none) : Same H (upd H' p o) := fun b u e => by
  rw [upd_ne (ne_of_none e h)]
  exact s b u e
theorem same_new {H H' : Hp} {p : Addr} {o : HO} (s : Same H H') (h : H' p = none) : Same H (upd H' p o) := same_put s (s.free h)
/-! ### loops -/
theorem for_str {x : Str} {g : TG} {tb : TS} {D : Ends} {σ : L2.St} {H : Hp} (Pv : Nat → L2.St → Hp → Prop) (h0 : Pv 0 σ H)
    (hs : ∀ (i : Nat) (c : Nat) (σ : L2.St) (H : Hp), x.cps.toList[i]? = some c → Pv i σ H → g (.str ⟨#[c]⟩) σ H fun σ2 H2 => tb { D with nx := Pv (i + 1), ct := Pv (i + 1), bk := D.nx } σ2 H2) (hd : ∀ σ H, Pv x.cps.toList.length σ H → D.nx σ H) :
    ∃ W : Nat → Nat → L2.St → Hp → Prop, (∃ m, W 0 m σ H) ∧ ∀ i m σ H, W i m σ H →
      ((Its x).stop i H ∧ D.nx σ H) ∨ ((Its x).go i H ∧ ∃ N : L2.St → Hp → Prop, (∀ σ' H', N σ' H' → ∃ m', m' < m ∧ W (i + 1) m' σ' H') ∧ ∀ v H', (Its x).yld i H v H' → g v σ H' fun σ2 H2 => tb { D with nx := N, ct := N, bk := D.nx } σ2 H2) := by
  have hl : x.cps.toList.length = x.cps.size := Array.length_toList
  refine ⟨fun i m σ H => m = x.cps.size - i ∧ i ≤ x.cps.size ∧ Pv i σ H, ⟨_, rfl, Nat.zero_le _, h0⟩, ?_⟩
  rintro i m σ H ⟨rfl, hi, p⟩
  by_cases hlt : i < x.cps.size
  · refine .inr ⟨hlt, Pv (i + 1), fun σ' H' p' => ⟨x.cps.size - (i + 1), by omega, rfl, hlt, p'⟩, fun v H' y => ?_⟩
    obtain ⟨rfl, c, hc, rfl⟩ := y
    exact hs i c σ H' (by rw [Array.getElem?_toList]; exact hc) p
  · have e : i = x.cps.size := by omega
    subst e
    exact .inl ⟨Nat.le_refl _, hd σ H (by rw [hl]; exact p)⟩
theorem take_more {α : Type} {l : List α} {i : Nat} {x : α} (h : l[i]? = some x) : l.take (i + 1) = l.take i ++ [x] := by
  rw [List.take_add_one, h]; rfl
end Wk
set_option Elab.async false
set_option linter.all false
set_option maxRecDepth 100000
set_option maxHeartbeats 4000000
/-! Seals. -/
namespace Wk
open PySem PySem.Spec PyProof.Rows L2 Pv Ph
variable {P : Program} {w : World} {K : PySem.W.Frag} {mg : Str → Option Value} {base : Heap}
/-! ### text_codes -/
def spTextCodes : Sp := fun vs H Q _ => ∃ x : Str, vs = [.str x] ∧ OkTx x ∧ ∀ H' p, Same H H' → H p = none → H' p = some (.lst ((textCodes x.cps.toList).map V.int)) → Q (.ref p) H'
theorem rg7 : ∀ n : Fin 61, Builtin.Range.small 0 (n.val : Int) 7 = true ∧ Builtin.Range.rangeSize 0 (n.val : Int) 7 = (n.val + 6) / 7 := by decide +kernel
theorem cut7 {x : Str} {i : Nat} (h : x.length ≤ 60) (hi : i < (x.length + 6) / 7) : (cutS x (some (0 + (i : Int) * 7)) (some (0 + (i : Int) * 7 + 7))).cps.toList = (x.cps.toList.drop (7 * i)).take 7 := by
  have e1 : HT.sIx x.length 0 (some (0 + (i : Int) * 7)) = 7 * i := by
    have : (0 + (i : Int) * 7) = ((7 * i : Nat) : Int) := by omega
    rw [this, HT.sIx_nat]
    omega
  have e2 : HT.sIx x.length x.length (some (0 + (i : Int) * 7 + 7)) = min (7 * i + 7) x.length := by
    have : (0 + (i : Int) * 7 + 7) = ((7 * i + 7 : Nat) : Int) := by omega
    rw [this, HT.sIx_nat]
  unfold cutS
  rw [e1, e2]
  show (((x.cps.toList.drop (7 * i)).take (min (7 * i + 7) x.length - 7 * i)).toArray).toList = _
  have hl : x.cps.toList.length = x.length := Array.length_toList
  rw [List.toList_toArray]
  by_cases c : 7 * i + 7 ≤ x.length
  · rw [Nat.min_eq_left c]
    congr 1
    omega
  · rw [Nat.min_eq_right (by omega)]
    have l1 : (x.cps.toList.drop (7 * i)).length = x.length - 7 * i := by rw [List.length_drop, hl]
    rw [List.take_of_length_le (by omega), List.take_of_length_le (by omega)]
theorem fo_text_codes (T : Tx K mg) : Fo P w K mg base CX0 1 (ad K "text_codes") spTextCodes := by
  have S : FnScope ["text", "found", "at", "code", "sign"] ["text"] (defScope (top 23)) := ⟨rfl, rfl, rfl, by decide +kernel, rfl, by decide +kernel, by decide +kernel⟩
  refine T.d_text_codes.ok S (fun _ _ _ _ _ _ us hl => match us, hl with | [_], _ => rfl) (fun vs H Q E h => by obtain ⟨x, rfl, _⟩ := h; rfl) (fun cdv A outer s H vs Q E hr h => ⟨_, PSs.nox ((pss_cons (ps_set (i := 1) S.nd rfl (Or.inl rfl) (pe_lst pa_nil)) (pss_cons (ps_for PassesOwn.never rfl (pi_range3 rfl T.n_range (pa_cons pe_int (pa_cons (pe_callB call_len_str (by rfl) T.n_len PySem.boot_len (pa_cons (pv 0) pa_nil)) (pa_cons pe_int pa_nil)))) (pg_name (i := 2) S.nd rfl (Or.inl rfl)) (pss_cons (ps_set (i := 3) S.nd rfl (Or.inl rfl) pe_int) (pss_cons (ps_for PassesOwn.never rfl (pi_str (pe_slice sl_str (pv 0) (po_some (pv 2)) (po_some (pe_op op_add (pv 2) pe_int)))) (pg_name (i := 4) S.nd rfl (Or.inl rfl)) (pss_one (ps_set (i := 3) S.nd rfl (Or.inl rfl) (pe_op op_add (pe_op op_mul pe_int (pv 3)) (pe_callB call_ord (by rfl) T.n_ord (by decide +kernel) (pa_cons (pv 4) pa_nil)))))) (pss_one (ps_expr (pe_bm PySem.F.plainAttrs_list PySem.F.slot_list_append PySem.F.type_list_append mt_append (pv 1) (pa_cons (pv 3) pa_nil))))))) (pss_one (ps_ret (pv 1)))))), ?_⟩)
  obtain ⟨x, rfl, ok, k⟩ := h
  have hl : x.cps.toList.length = x.length := Array.length_toList
  refine ⟨by show 0 ≤ sizeLine; decide, fun p hp => ?_⟩
  have hz : x.length ≤ sizeLine := Nat.le_trans ok.1 (by decide)
  refine ⟨_, rfl, _, rfl, hz, 0, (x.length : Int), 7, (x.length + 6) / 7, rfl, ⟨by decide, by decide, (rg7 ⟨x.length, by have := ok.1; omega⟩).1, (rg7 ⟨x.length, by have := ok.1; omega⟩).2⟩, for_rangeC
    (fun i σ H' => ∃ v2 v3 v4, σ = [some (.str x), some (.ref p), v2, v3, v4] ∧ Same H H' ∧ H' p = some (.lst (((List.range i).map fun j => codeOf ((x.cps.toList.drop (7 * j)).take 7)).map V.int))) ?_ ?_ ?_⟩
  · exact ⟨_, _, _, rfl, same_put (Same.refl H) hp, upd_same⟩
  · rintro i σ H1 hi ⟨v2, v3, v4, rfl, sm, hP⟩
    refine ⟨_, rfl, _, rfl, _, rfl, _, rfl, _, _, rfl, rfl, _, rfl, _, rfl, hz, _, rfl, for_str
      (fun j σ' H' => ∃ v4, σ' = [some (.str x), some (.ref p), some (.int (0 + (i : Int) * 7)), some (.int (codeOf (((x.cps.toList.drop (7 * i)).take 7).take j))), v4] ∧ H' = H1) ⟨_, rfl, rfl⟩ ?_ ?_⟩
    · rintro j c σ' H2 hc ⟨v4', rfl, rfl⟩
      rw [cut7 ok.1 hi] at hc
      refine ⟨_, rfl, _, _, rfl, rfl, .inl ⟨by decide, by decide⟩, _, rfl, _, rfl, rfl, _, _, rfl, rfl, some (.str ⟨#[c]⟩), ?_, rfl⟩
      have e : codeOf (((x.cps.toList.drop (7 * i)).take 7).take (j + 1)) = 128 * codeOf (((x.cps.toList.drop (7 * i)).take 7).take j) + (c : Int) := by
        rw [take_more hc]
        unfold codeOf
        rw [List.foldl_append]
        rfl
      rw [e]
      rfl
    · rintro σ' H2 ⟨v4', rfl, rfl⟩
      refine ⟨_, rfl, .inl ⟨rfl, _, SqL.of hP⟩, _, rfl, _, _, _, rfl, rfl, hP, ?_, ?_⟩
      · rw [List.length_map, List.length_map, List.length_range]
        have := ok.1
        exact Nat.lt_of_lt_of_le (show i < 61 by omega) (by decide)
      · refine ⟨_, _, _, rfl, same_put sm hp, ?_⟩
        rw [upd_same, List.range_succ, List.map_append, List.map_append, cut7 ok.1 hi, List.take_length]
        rfl
  · rintro σ H1 ⟨v2, v3, v4, rfl, sm, hP⟩
    refine ⟨_, rfl, k _ p sm hp ?_⟩
    rw [hP]
    unfold textCodes
    rw [hl]

/-! ### codes_of -/
def bnd : Nat → Nat
  | 0 => 11
  | n + 1 => 2 + 40 * bnd n
theorem textCodes_len {l : List Nat} (h : l.length ≤ 60) : (textCodes l).length ≤ 9 := by
  unfold textCodes
  rw [List.length_map, List.length_range]
  omega
theorem bnd_ge : ∀ n, 11 ≤ bnd n
  | 0 => Nat.le_refl _
  | n + 1 => by have := bnd_ge n; simp only [bnd]; omega
mutual
theorem codes_len : ∀ {n : Nat} {t : Th}, Ok n t → (codesOf t).length ≤ bnd n
  | n, .none, _ => by
    have := bnd_ge n
    simp only [codesOf, List.length_cons, List.length_nil]; omega
  | n, .num i, _ => by
    have := bnd_ge n
    simp only [codesOf, List.length_cons, List.length_nil]; omega
  | n, .text x, h => by
    have h' : OkTx x := by simpa [Ok] using h
    have := bnd_ge n
    have := textCodes_len (l := x.cps.toList) (by have e : x.cps.toList.length = x.length := Array.length_toList; rw [e]; exact h'.1)
    simp only [codesOf, List.length_cons]; omega
  | 0, .tup l, h => by simp [Ok] at h
  | n + 1, .tup l, h => by
    simp only [Ok, Nat.add_sub_cancel] at h
    have := codes_lens h.2.2
    have h3 : l.length * bnd n ≤ 40 * bnd n := Nat.mul_le_mul_right _ h.2.1
    simp only [codesOf, List.length_cons, bnd]; omega
theorem codes_lens : ∀ {n : Nat} {l : List Th}, OkAll n l → (codesAll l).length ≤ l.length * bnd n
  | _, [], _ => by simp [codesAll]
  | n, t :: l, h => by
    simp only [OkAll] at h
    have h1 := codes_len h.1
    have h2 := codes_lens h.2
    simp only [codesAll, List.length_append, List.length_cons, Nat.add_mul]; omega
end
theorem bnd3 {n : Nat} (h : n ≤ 3) : bnd n ≤ 800000 := by
  have : n = 0 ∨ n = 1 ∨ n = 2 ∨ n = 3 := by omega
  rcases this with rfl | rfl | rfl | rfl <;> decide
theorem codesAll_snoc {t : Th} : ∀ l : List Th, codesAll (l ++ [t]) = codesAll l ++ codesOf t
  | [] => by simp [codesAll]
  | a :: l => by simp [codesAll, codesAll_snoc l, List.append_assoc]
/-- of things less deep than n -/
def spCodes : Nat → Sp
  | 0 => fun _ _ _ _ => False
  | n + 1 => fun vs H Q _ => ∃ v t, vs = [v] ∧ IsT H v t ∧ Ok n t ∧ n ≤ 3 ∧ ∀ H' p, Same H H' → H p = none → H' p = some (.lst ((codesOf t).map V.int)) → Q (.ref p) H'
theorem fo_codes_of (T : Tx K mg) : ∀ n, Fo P w K mg base CX0 (n + 1) (ad K "codes_of") (spCodes n)
  | 0 => by
    have S : FnScope ["thing", "found", "part"] ["thing"] (defScope (top 24)) := ⟨rfl, rfl, rfl, by decide +kernel, rfl, by decide +kernel, by decide +kernel⟩
    exact T.d_codes_of.ok S (fun _ _ _ _ _ _ us hl => match us, hl with | [_], _ => rfl) (fun vs H Q E h => h.elim) (fun cdv A outer s H vs Q E hr h => h.elim)
  | n + 1 => by
    have S : FnScope ["thing", "found", "part"] ["thing"] (defScope (top 24)) := ⟨rfl, rfl, rfl, by decide +kernel, rfl, by decide +kernel, by decide +kernel⟩
    obtain ⟨t_HALF, h_HALF⟩ := T.i_HALF; obtain ⟨t_LEAST, h_LEAST⟩ := T.i_LEAST
    have F_codes_of : Fo P w K mg base CX0 (n + 1) (ad K "codes_of") (spCodes n) := fo_codes_of T n
    have F_text_codes : Fo P w K mg base CX0 1 (ad K "text_codes") spTextCodes := fo_text_codes T
    refine T.d_codes_of.ok S (fun _ _ _ _ _ _ us hl => match us, hl with | [_], _ => rfl) (fun vs H Q E h => by obtain ⟨x, t, rfl, _⟩ := h; rfl) (fun cdv A outer s H vs Q E hr h => ?_)
    have hr_text_codes := hr.mono (show 1 ≤ n + 1 by omega)
    have hr_codes_of := hr
    refine ⟨_, PSs.nox ((pss_cons (ps_if (pt_cmpR op_isN (pv 0) pe_non (nomark _)) (pss_one (ps_ret (pe_lst (pa_cons pe_int pa_nil)))) pss_nil) (pss_cons (ps_if (pt_val (pe_callB call_isi (by rfl) T.n_isinstance (by decide +kernel) (pa_cons (pv 0) (pa_cons (pe_bltn (v := V.ty "int") (u := Value.type "int") rfl T.n_int (by decide +kernel) rfl) pa_nil)))) (pss_one (ps_ret (pe_lst (pa_cons pe_int (pa_cons (pe_op op_fdivW (pe_op op_add (pv 0) (pe_glob (v := V.int 1000000000000000000000000000000) rfl h_LEAST ⟨_, rfl⟩)) (pe_glob (v := V.int 1000000000000000) rfl h_HALF ⟨_, rfl⟩)) (pa_cons (pe_op op_mod (pe_op op_add (pv 0) (pe_glob (v := V.int 1000000000000000000000000000000) rfl h_LEAST ⟨_, rfl⟩)) (pe_glob (v := V.int 1000000000000000) rfl h_HALF ⟨_, rfl⟩)) pa_nil)))))) pss_nil) (pss_cons (ps_if (pt_val (pe_callB call_isi (by rfl) T.n_isinstance (by decide +kernel) (pa_cons (pv 0) (pa_cons (pe_bltn (v := V.ty "str") (u := Value.type "str") rfl T.n_str (by decide +kernel) rfl) pa_nil)))) (pss_one (ps_ret (pe_op op_cat (pe_lst (pa_cons pe_int (pa_cons (pe_callB call_len (by rfl) T.n_len PySem.boot_len (pa_cons (pv 0) pa_nil)) pa_nil))) (pe_fn F_text_codes hr_text_codes rfl T.b_text_codes.g pass0 (pa_cons (pv 0) pa_nil))))) pss_nil) (pss_cons (ps_set (i := 1) S.nd rfl (Or.inl rfl) (pe_lst (pa_cons pe_int (pa_cons (pe_callB call_len (by rfl) T.n_len PySem.boot_len (pa_cons (pv 0) pa_nil)) pa_nil)))) (pss_cons (ps_for PassesOwn.never rfl (pi_tup (pv 0)) (pg_name (i := 2) S.nd rfl (Or.inl rfl)) (pss_one (ps_expr (pe_bm PySem.F.plainAttrs_list PySem.F.slot_list_extend PySem.F.type_list_extend mt_extend (pv 1) (pa_cons (pe_fn F_codes_of hr_codes_of rfl T.b_codes_of.g pass0 (pa_cons (pv 2) pa_nil)) pa_nil))))) (pss_one (ps_ret (pv 1))))))))), ?_⟩
    obtain ⟨v, t, rfl, hT, ok, n3, k⟩ := h
    have k' : ∀ p, H p = none → Q (.ref p) (upd H p (.lst ((codesOf t).map V.int))) := fun p hp => k _ p (same_put (Same.refl H) hp) hp upd_same
    cases hT with
    | non =>
      refine ⟨_, rfl, rfl, _, rfl, iteT ?_⟩
      exact ⟨by show 1 ≤ sizeLine; decide, fun p hp => k' p hp⟩
    | int i =>
      refine ⟨_, rfl, rfl, _, rfl, iteF ?_⟩
      refine ⟨_, rfl, _, _, _, _, _, rfl, .ty _, tyX (.int i), kit_ty (kitT _).1, _, rfl, iteT ?_⟩
      exact ⟨_, rfl, _, _, rfl, rfl, _, _, rfl, rfl, wide_div (b := 60) (by decide) (by decide) (by decide) (by decide), _, rfl, _, _, rfl, rfl, _, _, rfl, rfl, (by show (0 : Int) < _; decide), by show 3 ≤ sizeLine; decide, fun p hp => k' p hp⟩
    | str x =>
      have ox : OkTx x := by simpa [Ok] using ok
      refine ⟨_, rfl, rfl, _, rfl, iteF ?_⟩
      refine ⟨_, rfl, _, _, _, _, _, rfl, .ty _, tyX (.str x), kit_ty (kitT _).1, _, rfl, iteF ?_⟩
      refine ⟨_, rfl, _, _, _, _, _, rfl, .ty _, tyX (.str x), kit_ty (kitT _).2.1, _, rfl, iteT ?_⟩
      refine ⟨_, rfl, _, _, rfl, ⟨Nat.le_trans ox.1 (by decide), rfl⟩, by show 2 ≤ sizeLine; decide, fun p hp => ?_⟩
      refine ⟨_, rfl, x, rfl, ox, fun H2 p2 sm hp2 e2 => ?_⟩
      refine ⟨_, _, _, _, rfl, rfl, sm _ _ upd_same, e2, ?_, fun q hq => ?_⟩
      · have := textCodes_len (l := x.cps.toList) (by have e : x.cps.toList.length = x.length := Array.length_toList; rw [e]; exact ox.1)
        rw [List.length_map]
        exact Nat.le_trans (show 2 + _ ≤ 11 by omega) (by decide)
      · have sm' : Same H H2 := fun b o e => sm b o (by rw [upd_ne (ne_of_none e hp)]; exact e)
        exact k _ q (same_new sm' hq) (sm'.free hq) (by rw [upd_same]; rfl)
    | @tup a xs ts ha hts =>
      refine ⟨_, rfl, rfl, _, rfl, iteF ?_⟩
      refine ⟨_, rfl, _, _, _, _, _, rfl, .ty _, tyX (.tup ha hts), kit_ty (kitT _).1, _, rfl, iteF ?_⟩
      refine ⟨_, rfl, _, _, _, _, _, rfl, .ty _, tyX (.tup ha hts), kit_ty (kitT _).2.1, _, rfl, iteF ?_⟩
      cases n with
      | zero => simp [Ok] at ok
      | succ m =>
        simp only [Ok, Nat.add_sub_cancel] at ok
        have hl := hts.length
        refine ⟨_, rfl, _, _, rfl, .inr ⟨xs, SqT.of ha, rfl⟩, by show 2 ≤ sizeLine; decide, fun p hp => ?_⟩
        refine ⟨_, rfl, a, rfl, ⟨_, SqT.of (by rw [upd_ne (ne_of_none ha hp)]; exact ha)⟩, for_tup (xs := xs) (fun i σ H' => ∃ v2, σ = [some (.ref a), some (.ref p), v2] ∧ Same H H' ∧ H' p = some (.lst ((4 :: (ts.length : Int) :: codesAll (ts.take i)).map V.int))) ?_ ?_ ?_ ?_⟩
        · exact ⟨_, rfl, same_put (Same.refl H) hp, by rw [upd_same, hl]; rfl⟩
        · rintro i σ H1 hi ⟨v2, rfl, sm, hP⟩
          exact SqT.of (sm _ _ ha)
        · rintro i x σ H1 hx ⟨v2, rfl, sm, hP⟩
          obtain ⟨ti, hti, hT⟩ := hts.get hx
          have oki : Ok m ti := OkAll_iff.mp ok.2.2 ti (List.mem_of_getElem? hti)
          refine ⟨_, rfl, .inl ⟨rfl, _, SqL.of hP⟩, _, rfl, x, ti, rfl, hT.same sm, oki, by omega, fun H2 q sm2 hq e2 => ?_⟩
          refine ⟨p, q, _, _, rfl, rfl, sm2 _ _ hP, e2, ?_, ?_⟩
          · have h1 := codes_lens (n := m) (l := ts.take (i + 1)) (OkAll_iff.mpr fun t ht => OkAll_iff.mp ok.2.2 t (List.mem_of_mem_take ht))
            rw [take_more hti, codesAll_snoc, List.length_append] at h1
            have h2 : (ts.take (i + 1)).length ≤ 40 := Nat.le_trans (List.length_take_le' _ _) ok.2.1
            rw [take_more hti] at h2
            have h3 : (ts.take i ++ [ti]).length * bnd m ≤ 40 * bnd m := Nat.mul_le_mul_right _ h2
            have h4 := bnd3 (n := m) (by omega)
            have h5 : bnd (m + 1) ≤ 800000 := bnd3 (by omega)
            simp only [bnd] at h5
            rw [List.length_map, List.length_map, List.length_cons, List.length_cons, sizeLine_eq]
            omega
          · refine ⟨some x, rfl, same_put (sm.trans sm2) hp, ?_⟩
            rw [upd_same, take_more hti, codesAll_snoc, ← List.map_append]
            rfl
        · rintro σ H1 ⟨v2, rfl, sm, hP⟩
          refine ⟨_, rfl, k _ p sm hp ?_⟩
          rw [hP, hl, List.take_length]
          rfl
end Wk
set_option Elab.async false
set_option linter.all false
set_option maxRecDepth 100000
set_option maxHeartbeats 4000000
/-! Seals, things. -/
namespace Wk
open PySem PySem.Spec PyProof.Rows L2 Pv Ph
variable {P : Program} {w : World} {K : PySem.W.Frag} {mg : Str → Option Value} {base : Heap}
/-! ### seal -/
def spSeal : Sp := fun vs H Q _ => ∃ v t, vs = [v] ∧ IsT H v t ∧ Ok 3 t ∧ ∀ H', Same H H' → Q (.int (sealOf t)) H'
theorem fo_seal (T : Tx K mg) : Fo P w K mg base CX0 6 (ad K "seal") spSeal := by
  have S : FnScope ["thing", "last", "code"] ["thing"] (defScope (top 25)) := ⟨rfl, rfl, rfl, by decide +kernel, rfl, by decide +kernel, by decide +kernel⟩
  obtain ⟨t_BASE, h_BASE⟩ := T.i_BASE; obtain ⟨t_BEGIN, h_BEGIN⟩ := T.i_BEGIN; obtain ⟨t_MOST_SEAL, h_MOST_SEAL⟩ := T.i_MOST_SEAL
  have F_codes_of : Fo P w K mg base CX0 5 (ad K "codes_of") (spCodes 4) := fo_codes_of T 4
  refine T.d_seal.ok S (fun _ _ _ _ _ _ us hl => match us, hl with | [_], _ => rfl) (fun vs H Q E h => by obtain ⟨x, t, rfl, _⟩ := h; rfl) (fun cdv A outer s H vs Q E hr_codes_of h => ⟨_, PSs.nox ((pss_cons (ps_set (i := 1) S.nd rfl (Or.inl rfl) (pe_glob (v := V.int 7) rfl h_BEGIN ⟨_, rfl⟩)) (pss_cons (ps_for PassesOwn.never rfl (pi_list (pe_fn F_codes_of hr_codes_of rfl T.b_codes_of.g pass0 (pa_cons (pv 0) pa_nil))) (pg_name (i := 2) S.nd rfl (Or.inl rfl)) (pss_one (ps_set (i := 1) S.nd rfl (Or.inl rfl) (pe_op op_mod (pe_op op_add (pe_op op_mul (pv 1) (pe_glob (v := V.int 1234567890123456789) rfl h_BASE ⟨_, rfl⟩)) (pv 2)) (pe_glob (v := V.int 2305843009213693951) rfl h_MOST_SEAL ⟨_, rfl⟩))))) (pss_one (ps_ret (pe_op op_add (pv 1) pe_int)))))), ?_⟩)
  obtain ⟨v, t, rfl, hT, ok, k⟩ := h
  refine ⟨_, rfl, v, t, rfl, hT, ok, by decide, fun H1 p sm hp e => ⟨p, rfl, ⟨_, SqL.of e⟩, for_list (xs := (codesOf t).map V.int) (fun i σ H' => ∃ v2, σ = [some v, some (.int (((codesOf t).take i).foldl step 7)), v2] ∧ H' = H1) ?_ ?_ ?_ ?_⟩⟩
  · exact ⟨_, rfl, rfl⟩
  · rintro i σ H2 hi ⟨v2, rfl, rfl⟩
    exact SqL.of e
  · rintro i x σ H2 hx ⟨v2, rfl, rfl⟩
    rw [List.getElem?_map] at hx
    obtain ⟨c, hc, rfl⟩ := Option.map_eq_some_iff.mp hx
    refine ⟨_, rfl, _, _, rfl, rfl, .inr ⟨by decide, by decide⟩, _, rfl, _, _, rfl, rfl, _, _, rfl, rfl, (by show (0 : Int) < _; decide), some (.int c), ?_, rfl⟩
    rw [take_more hc, List.foldl_append]
    rfl
  · rintro σ H2 ⟨v2, rfl, rfl⟩
    refine ⟨_, rfl, _, _, rfl, rfl, ?_⟩
    rw [List.length_map, List.take_length]
    exact k _ sm

/-! ### things -/
def spIsNumber : Sp := fun vs H Q _ => ∃ v t d, vs = [v] ∧ IsT H v t ∧ Ok d t ∧ Q (.bl (isNum t)) H
theorem fo_is_number (T : Tx K mg) : Fo P w K mg base CX0 1 (ad K "is_number") spIsNumber := by
  have S : FnScope ["thing"] ["thing"] (defScope (top 31)) := ⟨rfl, rfl, rfl, by decide +kernel, rfl, by decide +kernel, by decide +kernel⟩
  obtain ⟨t_MOST_NUMBER, h_MOST_NUMBER⟩ := T.i_MOST_NUMBER
  refine T.d_is_number.ok S (fun _ _ _ _ _ _ us hl => match us, hl with | [_], _ => rfl) (fun vs H Q E h => by obtain ⟨x, t, d, rfl, _⟩ := h; rfl) (fun cdv A outer s H vs Q E hr h => ⟨_, PSs.nox ((pss_one (ps_ret (pe_and (pe_callB call_isi (by rfl) T.n_isinstance (by decide +kernel) (pa_cons (pv 0) (pa_cons (pe_bltn (v := V.ty "int") (u := Value.type "int") rfl T.n_int (by decide +kernel) rfl) pa_nil))) (pe_and (pe_not (pe_callB call_isi (by rfl) T.n_isinstance (by decide +kernel) (pa_cons (pv 0) (pa_cons (pe_bltn (v := V.ty "bool") (u := Value.type "bool") rfl T.n_bool (by decide +kernel) rfl) pa_nil)))) (pe_one (pe_chain op_le op_le (pe_un un_neg (pe_glob (v := V.int 1000000000000000000000000000000) rfl h_MOST_NUMBER ⟨_, rfl⟩)) (pv 0) (pe_glob (v := V.int 1000000000000000000000000000000) rfl h_MOST_NUMBER ⟨_, rfl⟩)))))))), ?_⟩)
  obtain ⟨v, t, d, rfl, hT, ok, k⟩ := h
  cases hT with
  | non => exact ⟨_, rfl, _, _, _, _, _, rfl, .ty _, tyX .non, kit_ty (kitT _).1, _, rfl, iteF k⟩
  | str x => exact ⟨_, rfl, _, _, _, _, _, rfl, .ty _, tyX (.str x), kit_ty (kitT _).1, _, rfl, iteF k⟩
  | tup ha hts => exact ⟨_, rfl, _, _, _, _, _, rfl, .ty _, tyX (.tup ha hts), kit_ty (kitT _).1, _, rfl, iteF k⟩
  | int i =>
    simp only [Ok] at ok
    refine ⟨_, rfl, _, _, _, _, _, rfl, .ty _, tyX (.int i), kit_ty (kitT _).1, _, rfl, iteT ⟨_, rfl, _, _, _, _, _, rfl, .ty _, tyX (.int i), kit_ty (kitT _).2.2.2.1, _, rfl, _, rfl, iteT ?_⟩⟩
    refine ⟨_, rfl, _, rfl, _, _, rfl, rfl, _, rfl, ite2 (fun c => ?_) (fun c => ?_)⟩
    · refine ⟨_, _, rfl, rfl, ?_⟩
      have e : decide (i ≤ (1000000000000000000000000000000 : Int)) = true := decide_eq_true ok.2
      show Q (.bl (decide (i ≤ (1000000000000000000000000000000 : Int)))) H
      rw [e]
      exact k
    · exact absurd (decide_eq_true ok.1) c
def spIsText : Sp := fun vs H Q _ => ∃ v t d, vs = [v] ∧ IsT H v t ∧ Ok d t ∧ Q (.bl (isTx t)) H
theorem fo_is_text (T : Tx K mg) : Fo P w K mg base CX0 1 (ad K "is_text") spIsText := by
  have S : FnScope ["thing", "sign"] ["thing"] (defScope (top 32)) := ⟨rfl, rfl, rfl, by decide +kernel, rfl, by decide +kernel, by decide +kernel⟩
  obtain ⟨t_MOST_SIGNS, h_MOST_SIGNS⟩ := T.i_MOST_SIGNS
  refine T.d_is_text.ok S (fun _ _ _ _ _ _ us hl => match us, hl with | [_], _ => rfl) (fun vs H Q E h => by obtain ⟨x, t, d, rfl, _⟩ := h; rfl) (fun cdv A outer s H vs Q E hr h => ⟨_, PSs.nox ((pss_cons (ps_if (PW.pt (pw_or (pt_not (pt_val (pe_callB call_isi (by rfl) T.n_isinstance (by decide +kernel) (pa_cons (pv 0) (pa_cons (pe_bltn (v := V.ty "str") (u := Value.type "str") rfl T.n_str (by decide +kernel) rfl) pa_nil))))) (pw_or1 (pt_cmpR op_gt (pe_callB call_len (by rfl) T.n_len PySem.boot_len (pa_cons (pv 0) pa_nil)) (pe_glob (v := V.int 60) rfl h_MOST_SIGNS ⟨_, rfl⟩) (nomark _))))) (pss_one (ps_ret pe_bl)) pss_nil) (pss_cons (ps_for PassesOwn.never rfl (pi_str (pv 0)) (pg_name (i := 1) S.nd rfl (Or.inl rfl)) (pss_one (ps_if (PW.pt (pw_or (pt_not (pt_chain op_le op_le pe_int (pe_callB call_ord (by rfl) T.n_ord (by decide +kernel) (pa_cons (pv 1) pa_nil)) pe_int)) (pw_or1 (pt_cmpR op_eq (pe_callB call_ord (by rfl) T.n_ord (by decide +kernel) (pa_cons (pv 1) pa_nil)) pe_int (nomark _))))) (pss_one (ps_ret pe_bl)) pss_nil))) (pss_one (ps_ret pe_bl))))), ?_⟩)
  obtain ⟨v, t, d, rfl, hT, ok, k⟩ := h
  cases hT with
  | non => exact ⟨_, rfl, _, _, _, _, _, rfl, .ty _, tyX .non, kit_ty (kitT _).2.1, _, rfl, iteT (iteT k)⟩
  | int i => exact ⟨_, rfl, _, _, _, _, _, rfl, .ty _, tyX (.int i), kit_ty (kitT _).2.1, _, rfl, iteT (iteT k)⟩
  | tup ha hts => exact ⟨_, rfl, _, _, _, _, _, rfl, .ty _, tyX (.tup ha hts), kit_ty (kitT _).2.1, _, rfl, iteT (iteT k)⟩
  | str x =>
    have ox : OkTx x := by simpa [Ok] using ok
    refine ⟨_, rfl, _, _, _, _, _, rfl, .ty _, tyX (.str x), kit_ty (kitT _).2.1, _, rfl, iteF ⟨_, rfl, _, _, rfl, ⟨Nat.le_trans ox.1 (by decide), rfl⟩, _, _, rfl, rfl, _, rfl, ite2 (fun c => ?_) (fun c => ?_)⟩⟩
    · have := of_decide_eq_true c
      have := ox.1
      omega
    · refine ⟨_, rfl, x, rfl, for_str (fun i σ H' => ∃ v1, σ = [some (.str x), v1] ∧ H' = H) ⟨_, rfl, rfl⟩ ?_ ?_⟩
      · rintro i ch σ H1 hc ⟨v1, rfl, rfl⟩
        have oc := ox.2 ch (List.mem_of_getElem? hc)
        have hg : (({ cps := #[ch] } : Str).cps.getD 0 0) = ch := rfl
        refine ⟨_, rfl, _, rfl, rfl, _, _, rfl, rfl, _, rfl, ite2 (fun c1 => ?_) (fun c1 => ?_)⟩
        · refine ⟨_, _, rfl, rfl, _, rfl, ite2 (fun c2 => ?_) (fun c2 => ?_)⟩
          · rw [hg] at c2
            simp at c2
            omega
          · refine ⟨_, rfl, _, rfl, rfl, rfl, _, rfl, ite2 (fun c3 => ?_) (fun c3 => ?_)⟩
            · rw [hg] at c3
              simp at c3
              omega
            · exact ⟨_, rfl, rfl⟩
        · rw [hg] at c1
          have := oc.1
          simp at c1
          omega
      · rintro σ H1 ⟨v1, rfl, rfl⟩
        exact k

def spWithin : Nat → Sp
  | 0 => fun _ _ _ _ => False
  | n + 1 => fun vs H Q _ => ∃ v t, ∃ d : Nat, vs = [v, .int (d : Int)] ∧ d ≤ n ∧ IsT H v t ∧ Ok d t ∧ Q (.bl true) H
theorem fo_is_within (T : Tx K mg) : ∀ n, Fo P w K mg base CX0 (n + 1) (ad K "is_within_things") (spWithin n)
  | 0 => by
    have S : FnScope ["thing", "deep", "part"] ["thing", "deep"] (defScope (top 33)) := ⟨rfl, rfl, rfl, by decide +kernel, rfl, by decide +kernel, by decide +kernel⟩
    exact T.d_is_within_things.ok S (fun _ _ _ _ _ _ us hl => match us, hl with | [_, _], _ => rfl) (fun vs H Q E h => h.elim) (fun cdv A outer s H vs Q E hr h => h.elim)
  | n + 1 => by
    have S : FnScope ["thing", "deep", "part"] ["thing", "deep"] (defScope (top 33)) := ⟨rfl, rfl, rfl, by decide +kernel, rfl, by decide +kernel, by decide +kernel⟩
    obtain ⟨t_MOST_THINGS, h_MOST_THINGS⟩ := T.i_MOST_THINGS
    have F_is_within_things : Fo P w K mg base CX0 (n + 1) (ad K "is_within_things") (spWithin n) := fo_is_within T n
    have F_is_number : Fo P w K mg base CX0 1 (ad K "is_number") spIsNumber := fo_is_number T
    have F_is_text : Fo P w K mg base CX0 1 (ad K "is_text") spIsText := fo_is_text T
    refine T.d_is_within_things.ok S (fun _ _ _ _ _ _ us hl => match us, hl with | [_, _], _ => rfl) (fun vs H Q E h => by obtain ⟨x, t, d, rfl, _⟩ := h; rfl) (fun cdv A outer s H vs Q E hr h => ?_)
    have hr_is_number := hr.mono (show 1 ≤ n + 1 by omega)
    have hr_is_text := hr.mono (show 1 ≤ n + 1 by omega)
    have hr_is_within_things := hr
    refine ⟨_, PSs.nox ((pss_cons (ps_if (PW.pt (pw_or (pt_cmpR op_isN (pv 0) pe_non (nomark _)) (pw_or (pt_val (pe_fn F_is_number hr_is_number rfl T.b_is_number.g pass0 (pa_cons (pv 0) pa_nil))) (pw_or1 (pt_val (pe_fn F_is_text hr_is_text rfl T.b_is_text.g pass0 (pa_cons (pv 0) pa_nil))))))) (pss_one (ps_ret pe_bl)) pss_nil) (pss_cons (ps_if (PW.pt (pw_or (pt_not (pt_val (pe_callB call_isi (by rfl) T.n_isinstance (by decide +kernel) (pa_cons (pv 0) (pa_cons (pe_bltn (v := V.ty "tuple") (u := Value.type "tuple") rfl T.n_tuple (by decide +kernel) rfl) pa_nil))))) (pw_or (pt_cmpR op_eq (pv 1) pe_int (nomark _)) (pw_or1 (pt_cmpR op_gt (pe_callB call_len (by rfl) T.n_len PySem.boot_len (pa_cons (pv 0) pa_nil)) (pe_glob (v := V.int 40) rfl h_MOST_THINGS ⟨_, rfl⟩) (nomark _)))))) (pss_one (ps_ret pe_bl)) pss_nil) (pss_cons (ps_for PassesOwn.never rfl (pi_tup (pv 0)) (pg_name (i := 2) S.nd rfl (Or.inl rfl)) (pss_one (ps_if (pt_not (pt_val (pe_fn F_is_within_things hr_is_within_things rfl T.b_is_within_things.g pass0 (pa_cons (pv 2) (pa_cons (pe_op op_sub (pv 1) pe_int) pa_nil))))) (pss_one (ps_ret pe_bl)) pss_nil))) (pss_one (ps_ret pe_bl)))))), ?_⟩
    obtain ⟨v, t, d, rfl, hd, hT, ok, k⟩ := h
    cases hT with
    | non => exact ⟨_, rfl, rfl, _, rfl, iteT (iteT k)⟩
    | int i =>
      refine ⟨_, rfl, rfl, _, rfl, iteF ?_⟩
      exact ⟨_, rfl, _, _, d, rfl, .int i, ok, _, rfl, iteT (iteT k)⟩
    | str x =>
      refine ⟨_, rfl, rfl, _, rfl, iteF ?_⟩
      refine ⟨_, rfl, _, _, d, rfl, .str x, ok, _, rfl, iteF ?_⟩
      exact ⟨_, rfl, _, _, d, rfl, .str x, ok, _, rfl, iteT k⟩
    | @tup a xs ts ha hts =>
      refine ⟨_, rfl, rfl, _, rfl, iteF ?_⟩
      refine ⟨_, rfl, _, _, d, rfl, .tup ha hts, ok, _, rfl, iteF ?_⟩
      refine ⟨_, rfl, _, _, d, rfl, .tup ha hts, ok, _, rfl, iteF ?_⟩
      simp only [Ok] at ok
      refine ⟨_, rfl, _, _, _, _, _, rfl, .ty _, tyX (.tup ha hts), kit_ty (kitT _).2.2.1, _, rfl, iteF ?_⟩
      refine ⟨_, rfl, rfl, _, rfl, ite2 (fun c => ?_) (fun c => ?_)⟩
      · have := of_decide_eq_true c
        injection this with this
        omega
      · refine ⟨_, rfl, _, _, rfl, .inr ⟨xs, SqT.of ha, rfl⟩, _, _, rfl, rfl, _, rfl, ite2 (fun c1 => ?_) (fun c1 => ?_)⟩
        · have := of_decide_eq_true c1
          have := hts.length
          omega
        · refine ⟨_, rfl, a, rfl, ⟨_, SqT.of ha⟩, for_tup (xs := xs) (fun i σ H' => ∃ v2, σ = [some (.ref a), some (.int (d : Int)), v2] ∧ H' = H) ⟨_, rfl, rfl⟩ ?_ ?_ ?_⟩
          · rintro i σ H1 hi ⟨v2, rfl, rfl⟩
            exact SqT.of ha
          · rintro i x σ H1 hx ⟨v2, rfl, rfl⟩
            obtain ⟨ti, hti, hT⟩ := hts.get hx
            obtain ⟨e, rfl⟩ : ∃ e, d = e + 1 := ⟨d - 1, by omega⟩
            cases n with
            | zero => omega
            | succ m =>
              have he : (((e + 1 : Nat) : Int) - 1) = (e : Int) := by omega
              refine ⟨_, rfl, _, rfl, _, _, rfl, rfl, x, ti, e, ?_, by omega, hT, OkAll_iff.mp ok.2.2 ti (List.mem_of_getElem? hti), _, rfl, iteF ⟨_, rfl, rfl⟩⟩
              show [x, V.int (((e + 1 : Nat) : Int) - 1)] = _
              rw [he]
          · rintro σ H1 ⟨v2, rfl, rfl⟩
            exact k
def spIsThing : Sp := fun vs H Q _ => ∃ v t, vs = [v] ∧ IsT H v t ∧ Ok 5 t ∧ Q (.bl true) H
theorem fo_is_thing (T : Tx K mg) : Fo P w K mg base CX0 8 (ad K "is_thing") spIsThing := by
  have S : FnScope ["thing"] ["thing"] (defScope (top 35)) := ⟨rfl, rfl, rfl, by decide +kernel, rfl, by decide +kernel, by decide +kernel⟩
  obtain ⟨t_DEEPEST, h_DEEPEST⟩ := T.i_DEEPEST
  have F_is_within_things : Fo P w K mg base CX0 7 (ad K "is_within_things") (spWithin 6) := fo_is_within T 6
  refine T.d_is_thing.ok S (fun _ _ _ _ _ _ us hl => match us, hl with | [_], _ => rfl) (fun vs H Q E h => by obtain ⟨x, t, rfl, _⟩ := h; rfl) (fun cdv A outer s H vs Q E hr_is_within_things h => ⟨_, PSs.nox ((pss_one (ps_ret (pe_fn F_is_within_things hr_is_within_things rfl T.b_is_within_things.g pass0 (pa_cons (pv 0) (pa_cons (pe_glob (v := V.int 5) rfl h_DEEPEST ⟨_, rfl⟩) pa_nil)))))), ?_⟩)
  obtain ⟨v, t, rfl, hT, ok, k⟩ := h
  exact ⟨_, rfl, v, t, 5, rfl, by decide, hT, ok, k⟩
def spKind : Sp := fun vs H Q _ => ∃ v t, vs = [v] ∧ IsT H v t ∧ Q (.int (kindOf t)) H
theorem fo_kind_of (T : Tx K mg) : Fo P w K mg base CX0 1 (ad K "kind_of") spKind := by
  have S : FnScope ["thing"] ["thing"] (defScope (top 36)) := ⟨rfl, rfl, rfl, by decide +kernel, rfl, by decide +kernel, by decide +kernel⟩
  refine T.d_kind_of.ok S (fun _ _ _ _ _ _ us hl => match us, hl with | [_], _ => rfl) (fun vs H Q E h => by obtain ⟨x, t, rfl, _⟩ := h; rfl) (fun cdv A outer s H vs Q E hr h => ⟨_, PSs.nox ((pss_cons (ps_if (pt_cmpR op_isN (pv 0) pe_non (nomark _)) (pss_one (ps_ret pe_int)) pss_nil) (pss_cons (ps_if (pt_val (pe_callB call_isi (by rfl) T.n_isinstance (by decide +kernel) (pa_cons (pv 0) (pa_cons (pe_bltn (v := V.ty "int") (u := Value.type "int") rfl T.n_int (by decide +kernel) rfl) pa_nil)))) (pss_one (ps_ret pe_int)) pss_nil) (pss_cons (ps_if (pt_val (pe_callB call_isi (by rfl) T.n_isinstance (by decide +kernel) (pa_cons (pv 0) (pa_cons (pe_bltn (v := V.ty "str") (u := Value.type "str") rfl T.n_str (by decide +kernel) rfl) pa_nil)))) (pss_one (ps_ret pe_int)) pss_nil) (pss_one (ps_ret pe_int)))))), ?_⟩)
  obtain ⟨v, t, rfl, hT, k⟩ := h
  cases hT with
  | non => exact ⟨_, rfl, rfl, _, rfl, iteT k⟩
  | int i =>
    refine ⟨_, rfl, rfl, _, rfl, iteF ?_⟩
    exact ⟨_, rfl, _, _, _, _, _, rfl, .ty _, tyX (.int i), kit_ty (kitT _).1, _, rfl, iteT k⟩
  | str x =>
    refine ⟨_, rfl, rfl, _, rfl, iteF ?_⟩
    refine ⟨_, rfl, _, _, _, _, _, rfl, .ty _, tyX (.str x), kit_ty (kitT _).1, _, rfl, iteF ?_⟩
    exact ⟨_, rfl, _, _, _, _, _, rfl, .ty _, tyX (.str x), kit_ty (kitT _).2.1, _, rfl, iteT k⟩
  | tup ha hts =>
    refine ⟨_, rfl, rfl, _, rfl, iteF ?_⟩
    refine ⟨_, rfl, _, _, _, _, _, rfl, .ty _, tyX (.tup ha hts), kit_ty (kitT _).1, _, rfl, iteF ?_⟩
    exact ⟨_, rfl, _, _, _, _, _, rfl, .ty _, tyX (.tup ha hts), kit_ty (kitT _).2.1, _, rfl, iteF k⟩
end Wk
set_option Elab.async false
set_option linter.all false
set_option maxRecDepth 100000
set_option maxHeartbeats 4000000
/-! The order of things. -/
namespace Wk
open PySem PySem.Spec PyProof.Rows L2 Pv Ph
variable {P : Program} {w : World} {K : PySem.W.Frag} {mg : Str → Option Value} {base : Heap}
def spSide : Nat → Sp
  | 0 => fun _ _ _ _ => False
  | n + 1 => fun vs H Q _ => ∃ u v a b, vs = [u, v] ∧ IsT H u a ∧ IsT H v b ∧ a.depth ≤ n ∧ n ≤ 60 ∧ ∀ H', Same H H' → Q (.int (sideOf a b)) H'
theorem lessI_int (b : Bool) : (1 : Int) - 2 * (if b = true then 1 else 0) = lessI b := rfl
theorem side_kind : ∀ {a b : Th}, kindOf a ≠ kindOf b → sideOf a b = lessI (decide (kindOf a < kindOf b)) := by
  intro a b h
  cases a <;> cases b <;> first
    | exact absurd rfl h
    | rfl
theorem IsTs.dropt {H : Hp} {ts : List Th} {xs : List V} (h : IsTs H xs ts) : xs.length = ts.length := h.length
theorem side_end : ∀ {l m : List Th} {i : Nat}, i = min l.length m.length → sideAll (l.drop i) (m.drop i) = lessI (decide ((l.length : Int) < (m.length : Int))) := by
  intro l m i hi
  by_cases h : l.length < m.length
  · have e1 : l.drop i = [] := List.drop_eq_nil_of_le (by omega)
    have e2 : ∃ b bs, m.drop i = b :: bs := by
      cases q : m.drop i with
      | nil =>
        have := congrArg List.length q
        rw [List.length_drop, List.length_nil] at this
        omega
      | cons b bs => exact ⟨b, bs, rfl⟩
    obtain ⟨b, bs, e2⟩ := e2
    rw [e1, e2, decide_eq_true (by omega)]
    rfl
  · have e2 : m.drop i = [] := List.drop_eq_nil_of_le (by omega)
    rw [e2, decide_eq_false (by omega)]
    cases l.drop i <;> rfl
theorem drop_at {α : Type} {l : List α} {i : Nat} {x : α} (h : l[i]? = some x) : l.drop i = x :: l.drop (i + 1) := by
  obtain ⟨hl, e⟩ := List.getElem?_eq_some_iff.mp h
  rw [List.drop_eq_getElem_cons hl, e]
theorem depth_at {l : List Th} {n : Nat} (h : NestedKey.depthAll l ≤ n) : ∀ t ∈ l, t.depth ≤ n := by
  induction l with
  | nil => intro t ht; cases ht
  | cons a l ih =>
    intro t ht
    simp only [NestedKey.depthAll] at h
    rcases List.mem_cons.mp ht with e | ht
    · rw [e]; omega
    · exact ih (by omega) t ht
theorem fo_side_of (T : Tx K mg) : ∀ n, Fo P w K mg base CX0 (n + 1) (ad K "side_of") (spSide n)
  | 0 => by
    have S : FnScope ["one", "other", "part", "another", "side"] ["one", "other"] (defScope (top 37)) := ⟨rfl, rfl, rfl, by decide +kernel, rfl, by decide +kernel, by decide +kernel⟩
    exact T.d_side_of.ok S (fun _ _ _ _ _ _ us hl => match us, hl with | [_, _], _ => rfl) (fun vs H Q E h => h.elim) (fun cdv A outer s H vs Q E hr h => h.elim)
  | n + 1 => by
    have S : FnScope ["one", "other", "part", "another", "side"] ["one", "other"] (defScope (top 37)) := ⟨rfl, rfl, rfl, by decide +kernel, rfl, by decide +kernel, by decide +kernel⟩
    have F_side_of : Fo P w K mg base CX0 (n + 1) (ad K "side_of") (spSide n) := fo_side_of T n
    have F_kind_of : Fo P w K mg base CX0 1 (ad K "kind_of") spKind := fo_kind_of T
    refine T.d_side_of.ok S (fun _ _ _ _ _ _ us hl => match us, hl with | [_, _], _ => rfl) (fun vs H Q E h => by obtain ⟨u, v, a, b, rfl, _⟩ := h; rfl) (fun cdv A outer s H vs Q E hr h => ?_)
    have hr_kind_of := hr.mono (show 1 ≤ n + 1 by omega)
    have hr_side_of := hr
    have hu6 := hr.units
    refine ⟨_, PSs.nox ((pss_cons (ps_if (pt_cmpR op_ne (pe_fn F_kind_of hr_kind_of rfl T.b_kind_of.g pass0 (pa_cons (pv 0) pa_nil)) (pe_fn F_kind_of hr_kind_of rfl T.b_kind_of.g pass0 (pa_cons (pv 1) pa_nil)) (nomark _)) (pss_one (ps_ret (pe_op op_sub pe_int (pe_op op_mul pe_int (pe_callTy call_int1 (by rfl) T.n_int (by decide +kernel) (pa_cons (pe_cmpR op_lt (pe_fn F_kind_of hr_kind_of rfl T.b_kind_of.g pass0 (pa_cons (pv 0) pa_nil)) (pe_fn F_kind_of hr_kind_of rfl T.b_kind_of.g pass0 (pa_cons (pv 1) pa_nil)) (nomark _)) pa_nil)))))) pss_nil) (pss_cons (ps_if (pt_cmpR (op_eqT hu6) (pv 0) (pv 1) (nomark _)) (pss_one (ps_ret pe_int)) pss_nil) (pss_cons (ps_if (pt_not (pt_val (pe_callB call_isi (by rfl) T.n_isinstance (by decide +kernel) (pa_cons (pv 0) (pa_cons (pe_bltn (v := V.ty "tuple") (u := Value.type "tuple") rfl T.n_tuple (by decide +kernel) rfl) pa_nil))))) (pss_one (ps_ret (pe_op op_sub pe_int (pe_op op_mul pe_int (pe_callTy call_int1 (by rfl) T.n_int (by decide +kernel) (pa_cons (pe_cmpR (OpR.or op_lt op_lt_str) (pv 0) (pv 1) (nomark _)) pa_nil)))))) pss_nil) (pss_cons (ps_for PassesOwn.never rfl (RZ.pi_zipA rfl T.n_zip (pa_cons (pv 0) (pa_cons (pv 1) pa_nil))) (pg_tup rfl (pgs_cons (pg_name (i := 2) S.nd rfl (Or.inl rfl)) (pgs_cons (pg_name (i := 3) S.nd rfl (Or.inl rfl)) pgs_nil))) (pss_cons (ps_set (i := 4) S.nd rfl (Or.inl rfl) (pe_fn F_side_of hr_side_of rfl T.b_side_of.g pass0 (pa_cons (pv 2) (pa_cons (pv 3) pa_nil)))) (pss_one (ps_if (pt_cmpR op_ne (pv 4) pe_int (nomark _)) (pss_one (ps_ret (pv 4))) pss_nil)))) (pss_one (ps_ret (pe_op op_sub pe_int (pe_op op_mul pe_int (pe_callTy call_int1 (by rfl) T.n_int (by decide +kernel) (pa_cons (pe_cmpR op_lt (pe_callB call_len (by rfl) T.n_len PySem.boot_len (pa_cons (pv 0) pa_nil)) (pe_callB call_len (by rfl) T.n_len PySem.boot_len (pa_cons (pv 1) pa_nil)) (nomark _)) pa_nil))))))))))), ?_⟩
    obtain ⟨u, v, a, b, rfl, ha, hb, hd, n6, k⟩ := h
    refine ⟨_, rfl, u, a, rfl, ha, _, rfl, v, b, rfl, hb, rfl, _, rfl, ite2 (fun c => ?_) (fun c => ?_)⟩
    · have ne : kindOf a ≠ kindOf b := by
        intro e
        rw [e] at c
        simp at c
      refine ⟨_, rfl, u, a, rfl, ha, _, rfl, v, b, rfl, hb, _, _, rfl, rfl, .inr ⟨_, rfl, ?_⟩⟩
      refine ⟨_, _, rfl, rfl, .inl ⟨by decide, by decide⟩, _, _, rfl, rfl, ?_⟩
      have q := k H (Same.refl H)
      rw [side_kind ne] at q
      exact q
    · have ke : kindOf a = kindOf b := by
        by_cases e : kindOf a = kindOf b
        · exact e
        · exfalso
          apply c
          simp [e]
      refine ⟨_, rfl, _, rfl, a, b, ha, hb, by omega, _, rfl, ite2 (fun c2 => ?_) (fun c2 => ?_)⟩
      · have e := of_decide_eq_true c2
        subst e
        have z : sideOf a a = 0 := by
          cases a with
          | none => simp [sideOf]
          | num i => simp [sideOf]
          | text x => simp [sideOf]
          | tup l =>
            simp only [sideOf]
            rw [if_pos (by rw [← NestedKey.decide_eq]; simp)]
        have q := k H (Same.refl H)
        rw [z] at q
        exact q
      · have ne : a ≠ b := fun e => c2 (decide_eq_true e)
        cases ha with
        | non =>
          cases hb with
          | non => exact absurd rfl ne
          | int _ => simp [Pv.kindOf] at ke
          | str _ => simp [Pv.kindOf] at ke
          | tup _ _ => simp [Pv.kindOf] at ke
        | int i =>
          cases hb with
          | int j =>
            refine ⟨_, rfl, _, _, _, _, _, rfl, .ty _, tyX (.int i), kit_ty (kitT _).2.2.1, _, rfl, iteT ?_⟩
            refine ⟨_, rfl, _, rfl, .inl ⟨_, _, rfl, rfl, .inr ⟨_, rfl, ?_⟩⟩⟩
            refine ⟨_, _, rfl, rfl, .inl ⟨by decide, by decide⟩, _, _, rfl, rfl, ?_⟩
            have q := k H (Same.refl H)
            have ne' : ¬ i = j := fun e => ne (by rw [e])
            simp only [sideOf, if_neg ne'] at q
            exact q
          | non => simp [Pv.kindOf] at ke
          | str _ => simp [Pv.kindOf] at ke
          | tup _ _ => simp [Pv.kindOf] at ke
        | str x =>
          cases hb with
          | str y =>
            refine ⟨_, rfl, _, _, _, _, _, rfl, .ty _, tyX (.str x), kit_ty (kitT _).2.2.1, _, rfl, iteT ?_⟩
            refine ⟨_, rfl, _, rfl, .inr ⟨_, _, rfl, rfl, .inr ⟨_, rfl, ?_⟩⟩⟩
            refine ⟨_, _, rfl, rfl, .inl ⟨by decide, by decide⟩, _, _, rfl, rfl, ?_⟩
            have q := k H (Same.refl H)
            have ne' : ¬ x = y := fun e => ne (by rw [e])
            simp only [sideOf, if_neg ne'] at q
            exact q
          | non => simp [Pv.kindOf] at ke
          | int _ => simp [Pv.kindOf] at ke
          | tup _ _ => simp [Pv.kindOf] at ke
        | @tup pa xs l hpa hl =>
          cases hb with
          | non => simp [Pv.kindOf] at ke
          | int _ => simp [Pv.kindOf] at ke
          | str _ => simp [Pv.kindOf] at ke
          | @tup pb ys m hpb hm =>
            refine ⟨_, rfl, _, _, _, _, _, rfl, .ty _, tyX (.tup hpa hl), kit_ty (kitT _).2.2.1, _, rfl, iteF ?_⟩
            have e0 : sideOf (.tup l) (.tup m) = sideAll l m := by
              simp only [sideOf]
              rw [if_neg]
              intro z
              rw [← NestedKey.decide_eq] at z
              exact ne (of_decide_eq_true z)
            have ll := hl.length
            have lm := hm.length
            simp only [NestedKey.depth] at hd
            refine ⟨_, rfl, _, rfl, pa, pb, xs, ys, rfl, .inr ⟨SqT.of hpa, SqT.of hpb, Ls.for_zipAny (xs := xs) (ys := ys) (fun i σ H' => ∃ v2 v3 v4, σ = [some (.ref pa), some (.ref pb), v2, v3, v4] ∧ Same H H' ∧ sideAll l m = sideAll (l.drop i) (m.drop i)) ?_ ?_ ?_ ?_⟩⟩
            · exact ⟨_, _, _, rfl, Same.refl H, rfl⟩
            · rintro i σ H1 ⟨v2, v3, v4, rfl, sm, _⟩
              exact ⟨SqT.of (sm _ _ hpa), SqT.of (sm _ _ hpb)⟩
            · rintro i x y Tp σ H1 hx hy ⟨v2, v3, v4, rfl, sm, es⟩ hT
              obtain ⟨t1, h1, it1⟩ := hl.get hx
              obtain ⟨t2, h2, it2⟩ := hm.get hy
              have sm2 : Same H (upd H1 Tp (.tup [x, y])) := same_new sm hT
              refine ⟨Tp, _, rfl, SqT.of upd_same, rfl, _, _, rfl, _, _, rfl, rfl, ?_⟩
              cases n with
              | zero => omega
              | succ n =>
                refine ⟨_, rfl, _, rfl, x, y, t1, t2, rfl, it1.same sm2, it2.same sm2, depth_at (by omega) t1 (List.mem_of_getElem? h1), by omega, fun H2 sm3 => ?_⟩
                refine ⟨_, rfl, rfl, _, rfl, ite2 (fun c3 => ?_) (fun c3 => ?_)⟩
                · have nz : sideOf t1 t2 ≠ 0 := by
                    intro e
                    rw [e] at c3
                    simp at c3
                  refine ⟨_, rfl, ?_⟩
                  have q := k H2 (sm2.trans sm3)
                  rw [e0, es, drop_at h1, drop_at h2] at q
                  simp only [sideAll, if_pos nz] at q
                  exact q
                · have z : ¬ sideOf t1 t2 ≠ 0 := by
                    intro e
                    apply c3
                    simp [e]
                  refine ⟨_, _, _, rfl, sm2.trans sm3, ?_⟩
                  rw [es, drop_at h1, drop_at h2]
                  simp only [sideAll, if_neg z]
            · rintro σ H1 ⟨v2, v3, v4, rfl, sm, es⟩
              refine ⟨_, rfl, _, _, rfl, .inr ⟨xs, SqT.of (sm _ _ hpa), rfl⟩, _, rfl, _, _, rfl, .inr ⟨ys, SqT.of (sm _ _ hpb), rfl⟩, _, _, rfl, rfl, .inr ⟨_, rfl, ?_⟩⟩
              refine ⟨_, _, rfl, rfl, .inl ⟨by decide, by decide⟩, _, _, rfl, rfl, ?_⟩
              have q := k H1 sm
              rw [e0, es, side_end (by rw [ll, lm]), ← ll, ← lm] at q
              exact q
def spAhead : Sp := fun vs H Q _ => ∃ u v a b, vs = [u, v] ∧ IsT H u a ∧ IsT H v b ∧ a.depth ≤ 6 ∧ ∀ H', Same H H' → Q (.bl (ahead a b)) H'
theorem fo_ahead (T : Tx K mg) : Fo P w K mg base CX0 9 (ad K "ahead") spAhead := by
  have S : FnScope ["one", "other"] ["one", "other"] (defScope (top 38)) := ⟨rfl, rfl, rfl, by decide +kernel, rfl, by decide +kernel, by decide +kernel⟩
  have F_side_of : Fo P w K mg base CX0 8 (ad K "side_of") (spSide 7) := fo_side_of T 7
  refine T.d_ahead.ok S (fun _ _ _ _ _ _ us hl => match us, hl with | [_, _], _ => rfl) (fun vs H Q E h => by obtain ⟨u, v, a, b, rfl, _⟩ := h; rfl) (fun cdv A outer s H vs Q E hr_side_of h => ⟨_, PSs.nox ((pss_one (ps_ret (pe_cmpR op_lt (pe_fn F_side_of hr_side_of rfl T.b_side_of.g pass0 (pa_cons (pv 0) (pa_cons (pv 1) pa_nil))) pe_int (nomark _))))), ?_⟩)
  obtain ⟨u, v, a, b, rfl, ha, hb, hd, k⟩ := h
  exact ⟨_, rfl, _, rfl, u, v, a, b, rfl, ha, hb, hd, by decide, fun H' sm => ⟨_, _, rfl, rfl, k H' sm⟩⟩
end Wk
set_option Elab.async false
set_option linter.all false
set_option maxRecDepth 100000
set_option maxHeartbeats 4000000
/-! How often a program touches its vault; the stores stay small. -/
namespace Pv
open PySem
def lim : Nat := 4000000
def VS.size : VS → Nat
  | .base s => s.length
  | .reader _ o m => o.length + m.length
def wq {α : Type} : Pg α → VS → (α → VS → Prop) → (Ex → Prop) → Prop
  | .ret a, s, Q, _ => Q a s
  | .thing n k, s, Q, E => s.size < lim ∧ match s.thing n with
    | some (t, s') => wq (k t) s' Q E
    | none => E .noPaper
  | .lay t k, s, Q, E => s.size < lim ∧ Ok 3 t ∧ match s.lay t with
    | .ok s' => wq (k (sealOf t)) s' Q E
    | .error x => E (.clash x t)
  | .bad, _, _, _ => False
section
variable {α : Type} {n : Int} {k : Th → Pg α} {j : Int → Pg α} {t x : Th} {s s' : VS} {Q : α → VS → Prop} {E : Ex → Prop}
theorem wq_thing_some (e : s.thing n = some (t, s')) : wq (.thing n k) s Q E = (s.size < lim ∧ wq (k t) s' Q E) := by
  simp only [wq]; rw [e]
theorem wq_thing_none (e : s.thing n = none) : wq (.thing n k) s Q E = (s.size < lim ∧ E .noPaper) := by
  simp only [wq]; rw [e]
theorem wq_lay_ok (e : s.lay t = .ok s') : wq (.lay t j) s Q E = (s.size < lim ∧ Ok 3 t ∧ wq (j (sealOf t)) s' Q E) := by
  simp only [wq]; rw [e]
theorem wq_lay_error (e : s.lay t = .error x) : wq (.lay t j) s Q E = (s.size < lim ∧ Ok 3 t ∧ E (.clash x t)) := by
  simp only [wq]; rw [e]
end
theorem wq_mono {α : Type} : ∀ (P : Pg α) (s : VS) {Q Q' : α → VS → Prop} {E E' : Ex → Prop}, (∀ a s', Q a s' → Q' a s') → (∀ e, E e → E' e) → wq P s Q E → wq P s Q' E'
  | .ret a, s, _, _, _, _, hq, _, h => hq a s h
  | .thing n k, s, _, _, _, _, hq, he, h => by
    cases e : s.thing n with
    | some p =>
      rw [wq_thing_some (t := p.1) (s' := p.2) e] at h ⊢
      exact ⟨h.1, wq_mono (k p.1) p.2 hq he h.2⟩
    | none =>
      rw [wq_thing_none e] at h ⊢
      exact ⟨h.1, he _ h.2⟩
  | .lay t k, s, _, _, _, _, hq, he, h => by
    cases e : s.lay t with
    | ok s' =>
      rw [wq_lay_ok e] at h ⊢
      exact ⟨h.1, h.2.1, wq_mono (k _) s' hq he h.2.2⟩
    | error x =>
      rw [wq_lay_error e] at h ⊢
      exact ⟨h.1, h.2.1, he _ h.2.2⟩
  | .bad, _, _, _, _, _, _, _, h => h
theorem wq_bind_iff {α β : Type} : ∀ (P : Pg α) (f : α → Pg β) (s : VS) {Q : β → VS → Prop} {E : Ex → Prop}, wq (P.bind f) s Q E ↔ wq P s (fun a s' => wq (f a) s' Q E) E
  | .ret a, f, s, _, _ => Iff.rfl
  | .thing n k, f, s, Q, E => by
    show wq (.thing n fun t => (k t).bind f) s Q E ↔ _
    cases e : s.thing n with
    | some p =>
      rw [wq_thing_some (t := p.1) (s' := p.2) e, wq_thing_some (t := p.1) (s' := p.2) e, wq_bind_iff (k p.1) f p.2]
    | none =>
      rw [wq_thing_none e, wq_thing_none e]
  | .lay t k, f, s, Q, E => by
    show wq (.lay t fun n => (k n).bind f) s Q E ↔ _
    cases e : s.lay t with
    | ok s' =>
      rw [wq_lay_ok e, wq_lay_ok e, wq_bind_iff (k _) f s']
    | error x =>
      rw [wq_lay_error e, wq_lay_error e]
  | .bad, _, _, _, _ => Iff.rfl

/-! ### counts -/
def Ops {α : Type} : Pg α → Nat → (α → Prop) → Prop
  | .ret a, _, R => R a
  | .thing _ k, b + 1, R => ∀ t, Ops (k t) b R
  | .lay _ k, b + 1, R => ∀ n, Ops (k n) b R
  | .thing _ _, 0, _ => False
  | .lay _ _, 0, _ => False
  | .bad, _, _ => True
theorem Ops.mono {α : Type} {R R' : α → Prop} (hr : ∀ a, R a → R' a) : ∀ (P : Pg α) {b c : Nat}, b ≤ c → Ops P b R → Ops P c R'
  | .ret a, _, _, _, h => hr a h
  | .thing _ k, 0, _, _, h => h.elim
  | .thing _ k, b + 1, 0, hc, _ => by omega
  | .thing _ k, b + 1, c + 1, hc, h => fun t => Ops.mono hr (k t) (by omega) (h t)
  | .lay _ k, 0, _, _, h => h.elim
  | .lay _ k, b + 1, 0, hc, _ => by omega
  | .lay _ k, b + 1, c + 1, hc, h => fun t => Ops.mono hr (k t) (by omega) (h t)
  | .bad, _, _, _, _ => True.intro
theorem Ops.le {α : Type} {R : α → Prop} {P : Pg α} {b c : Nat} (h : Ops P b R) (hc : b ≤ c) : Ops P c R := Ops.mono (fun _ x => x) P hc h
theorem Ops.bind {α β : Type} {R : α → Prop} {R' : β → Prop} {f : α → Pg β} {c : Nat} (hf : ∀ a, R a → Ops (f a) c R') : ∀ (P : Pg α) {b : Nat}, Ops P b R → Ops (P.bind f) (b + c) R'
  | .ret a, b, h => (hf a h).le (by omega)
  | .thing _ k, 0, h => h.elim
  | .thing _ k, b + 1, h => by
    show Ops (.thing _ fun t => (k t).bind f) _ _
    rw [show b + 1 + c = (b + c) + 1 by omega]
    exact fun t => Ops.bind hf (k t) (h t)
  | .lay _ k, 0, h => h.elim
  | .lay _ k, b + 1, h => by
    show Ops (.lay _ fun t => (k t).bind f) _ _
    rw [show b + 1 + c = (b + c) + 1 by omega]
    exact fun t => Ops.bind hf (k t) (h t)
  | .bad, _, _ => True.intro
abbrev Tr {α : Type} : α → Prop := fun _ => True
theorem Ops.bind' {α β : Type} {R : α → Prop} {R' : β → Prop} {f : α → Pg β} {b c d : Nat} {P : Pg α} (h : Ops P b R) (hf : ∀ a, R a → Ops (f a) c R') (hd : b + c ≤ d) : Ops (P.bind f) d R' := (Ops.bind hf P h).le hd
theorem put_len (s : Store) (n : Int) (t : Th) : (s.put n t).length ≤ s.length + 1 := by
  unfold Store.put
  split
  · simp
  · simp
theorem thing_size {s s' : VS} {n : Int} {t : Th} (h : s.thing n = some (t, s')) : s'.size ≤ s.size + 1 := by
  cases s with
  | base st =>
    unfold VS.thing at h
    simp only at h
    cases e : Store.get st n with
    | none => rw [e] at h; cases h
    | some x =>
      rw [e] at h
      cases h
      exact Nat.le_succ _
  | reader k o m =>
    unfold VS.thing at h
    simp only at h
    cases e : Store.get o n with
    | some x =>
      rw [e] at h
      cases h
      exact Nat.le_succ _
    | none =>
      rw [e] at h
      simp only at h
      cases e2 : Store.get k n with
      | none => rw [e2] at h; cases h
      | some x =>
        rw [e2] at h
        cases h
        have := put_len m n t
        simp only [VS.size]; omega
theorem lay_size {s s' : VS} {t : Th} (h : s.lay t = .ok s') : s'.size ≤ s.size + 1 := by
  cases s with
  | base st =>
    unfold VS.lay at h
    simp only at h
    cases e : st.laid t with
    | some x => rw [e] at h; cases h
    | none =>
      rw [e] at h
      cases h
      exact put_len _ _ _
  | reader k o m =>
    unfold VS.lay at h
    simp only at h
    cases e : k.laid t with
    | some x => rw [e] at h; cases h
    | none =>
      rw [e] at h
      simp only at h
      cases e2 : o.laid t with
      | some x => rw [e2] at h; cases h
      | none =>
        rw [e2] at h
        cases h
        have := put_len o (sealOf t) t
        simp only [VS.size]; omega
theorem wq_of {α : Type} {Q : α → VS → Prop} {E : Ex → Prop} {R : α → Prop} : ∀ (P : Pg α) (s : VS) {b : Nat}, wp P s Q E → Ops P b R → s.size + b ≤ lim → wq P s (fun a s' => Q a s' ∧ s'.size ≤ s.size + b) E
  | .ret a, s, b, h, _, _ => ⟨h, by omega⟩
  | .thing n k, s, 0, h, o, _ => o.elim
  | .thing n k, s, b + 1, h, o, hl => by
    cases e : s.thing n with
    | some p =>
      rw [wp_thing_some (t := p.1) (s' := p.2) e] at h
      rw [wq_thing_some (t := p.1) (s' := p.2) e]
      have hs := thing_size (t := p.1) (s' := p.2) e
      exact ⟨by omega, wq_mono _ _ (fun a s' q => ⟨q.1, by omega⟩) (fun _ x => x) (wq_of (k p.1) p.2 h (o p.1) (by omega))⟩
    | none =>
      rw [wp_thing_none e] at h
      rw [wq_thing_none e]
      exact ⟨by omega, h⟩
  | .lay t k, s, 0, h, o, _ => o.elim
  | .lay t k, s, b + 1, h, o, hl => by
    cases e : s.lay t with
    | ok s' =>
      rw [wp_lay_ok e] at h
      rw [wq_lay_ok e]
      have hs := lay_size e
      exact ⟨by omega, h.1, wq_mono _ _ (fun a s' q => ⟨q.1, by omega⟩) (fun _ x => x) (wq_of (k _) s' h.2 (o _) (by omega))⟩
    | error x =>
      rw [wp_lay_error e] at h
      rw [wq_lay_error e]
      exact ⟨by omega, h⟩
  | .bad, _, _, h, _, _ => h

/-! ### of the programs -/
theorem ops_nodeAt (r : Int) : Ops (nodeAt r) 1 Tr := by
  intro t
  show Ops (match asNd t with | some n => .ret n | none => .bad) 0 Tr
  cases asNd t <;> exact True.intro
theorem ops_nodeBeneath (r c : Int) : Ops (nodeBeneath r c) 1 Tr := Ops.bind' (ops_nodeAt r) (c := 0) (fun n _ => by
  split
  · exact True.intro
  · exact True.intro) (Nat.le_refl _)
theorem ops_sizeP (r : Int) : Ops (sizeP r) 1 Tr := by
  unfold sizeP
  split
  · exact True.intro
  · exact Ops.bind' (ops_nodeAt r) (c := 0) (fun n _ => True.intro) (Nat.le_refl _)
theorem ops_sizeBeneath (r c : Int) : Ops (sizeBeneath r c) 1 Tr := by
  unfold sizeBeneath
  split
  · exact True.intro
  · exact Ops.bind' (ops_nodeBeneath r c) (c := 0) (fun n _ => True.intro) (Nat.le_refl _)
theorem ops_found (key : Th) : ∀ (f : Nat) (c r : Int), Ops (foundP key f c r) f Tr
  | 0, _, _ => True.intro
  | f + 1, c, r => by
    unfold foundP
    split
    · exact True.intro
    · refine Ops.bind' (ops_nodeBeneath r c) (c := f) (fun n _ => ?_) (by omega)
      split
      · exact True.intro
      · exact ops_found key f _ _
theorem ops_needCounted (n : Nd) : Ops (needCounted n) 2 Tr := by
  unfold needCounted
  refine Ops.bind' (ops_sizeBeneath _ _) (c := 1) (fun a _ => Ops.bind' (ops_sizeBeneath _ _) (c := 0) (fun b _ => ?_) (by omega)) (by omega)
  split <;> exact True.intro
theorem ops_stretch (low high : Th) : ∀ (f : Nat) (ws : List Wt) (acc : List (Th × Th)), Ops (stretchP low high f ws acc) (3 * f) Tr
  | 0, _, _ => True.intro
  | f + 1, [], _ => True.intro
  | f + 1, .pair k w :: ws, acc => (ops_stretch low high f ws _).le (by omega)
  | f + 1, .tree r c :: ws, acc => by
    unfold stretchP
    split
    · exact (ops_stretch low high f ws acc).le (by omega)
    · refine Ops.bind' (ops_nodeBeneath r c) (c := 2 + 3 * f) (fun n _ => ?_) (by omega)
      refine Ops.bind' (b := 2) (R := Tr) ?_ (c := 3 * f) (fun _ _ => ops_stretch low high f _ _) (by omega)
      split
      · exact ops_needCounted n
      · exact True.intro
theorem ops_aheadOfP (key : Th) : ∀ (f : Nat) (c r many : Int), Ops (aheadOfP key f c r many) (2 * f) Tr
  | 0, _, _, _ => True.intro
  | f + 1, c, r, many => by
    unfold aheadOfP
    split
    · exact True.intro
    · refine Ops.bind' (ops_nodeBeneath r c) (c := 1 + 2 * f) (fun n _ => ?_) (by omega)
      split
      · exact Ops.bind' (ops_sizeBeneath _ _) (c := 0) (fun _ _ => True.intro) (by omega)
      · split
        · exact Ops.bind' (ops_sizeBeneath _ _) (c := 2 * f) (fun _ _ => ops_aheadOfP key f _ _ _) (by omega)
        · exact (ops_aheadOfP key f _ _ _).le (by omega)
theorem ops_counted (r : Int) (low high : Th) : Ops (counted r low high) 1300 Tr := by
  unfold counted
  split
  · exact True.intro
  · refine Ops.bind' (b := 604) (R := Tr) ?_ (c := 604) (fun a _ => ?_) (by omega)
    · split
      · exact ops_aheadOfP low 302 301 r 0
      · exact True.intro
    · split
      · exact Ops.bind' (ops_sizeP r) (c := 0) (fun _ _ => True.intro) (by omega)
      · exact Ops.bind' (ops_aheadOfP high 302 301 r 0) (c := 0) (fun _ _ => True.intro) (by omega)
theorem ops_nthP : ∀ (f : Nat) (c r k : Int), Ops (nthP f c r k) (2 * f) Tr
  | 0, _, _, _ => True.intro
  | f + 1, c, r, k => by
    unfold nthP
    split
    · exact True.intro
    · refine Ops.bind' (ops_nodeBeneath r c) (c := 1 + 2 * f) (fun n _ => ?_) (by omega)
      refine Ops.bind' (ops_sizeBeneath _ _) (c := 2 * f) (fun m _ => ?_) (by omega)
      split
      · exact True.intro
      · split
        · exact ops_nthP f _ _ _
        · exact ops_nthP f _ _ _
theorem ops_partWay (key : Th) : ∀ (f : Nat) (c r : Int) (way : List Nd), Ops (partWay key f c r way) f (fun l => l.length ≤ way.length + f)
  | 0, _, _, _ => True.intro
  | f + 1, c, r, way => by
    unfold partWay
    split
    · show way.length ≤ way.length + (f + 1); omega
    · refine Ops.bind' (ops_nodeBeneath r c) (c := f) (fun n _ => ?_) (by omega)
      exact Ops.mono (fun l h => by rw [List.length_append, List.length_singleton] at h; omega) _ (Nat.le_refl _) (ops_partWay key f _ _ (way ++ [n]))
theorem ops_partUp (key : Th) : ∀ (l : List Nd) (a b c d e : Int), Ops (partUp key l a b c d e) l.length Tr
  | [], _, _, _, _, _ => True.intro
  | n :: ns, a, b, c, d, e => by
    unfold partUp
    split
    · exact fun x => ops_partUp key ns _ _ _ _ _
    · exact fun x => ops_partUp key ns _ _ _ _ _
theorem ops_partP (r : Int) (key : Th) : Ops (partP r key) 604 Tr := by
  unfold partP
  refine Ops.bind' (ops_partWay key 302 301 r []) (c := 302) (fun l h => (ops_partUp key _ _ _ _ _ _).le ?_) (by omega)
  rw [List.length_reverse]; simpa using h
theorem ops_joinWay : ∀ (f : Nat) (a b l r : Int) (way : List (Nd × Bool × Int)), Ops (joinWay f a b l r way) (2 * f) (fun x => x.2.length ≤ way.length + f)
  | 0, _, _, _, _, _ => True.intro
  | f + 1, a, b, l, r, way => by
    unfold joinWay
    split
    · show way.length ≤ way.length + (f + 1); omega
    · split
      · show way.length ≤ way.length + (f + 1); omega
      · refine Ops.bind' (ops_nodeBeneath l a) (c := 1 + 2 * f) (fun n _ => ?_) (by omega)
        refine Ops.bind' (ops_nodeBeneath r b) (c := 2 * f) (fun m _ => ?_) (by omega)
        split
        · exact Ops.mono (fun x h => by rw [List.length_append, List.length_singleton] at h; omega) _ (Nat.le_refl _) (ops_joinWay f _ _ _ _ (way ++ [(n, true, n.count + m.count)]))
        · exact Ops.mono (fun x h => by rw [List.length_append, List.length_singleton] at h; omega) _ (Nat.le_refl _) (ops_joinWay f _ _ _ _ (way ++ [(m, false, n.count + m.count)]))
theorem ops_joinUp : ∀ (l : List (Nd × Bool × Int)) (r : Int), Ops (joinUp l r) l.length Tr
  | [], _ => True.intro
  | (n, true, c) :: ns, r => fun x => ops_joinUp ns x
  | (n, false, c) :: ns, r => fun x => ops_joinUp ns x
theorem ops_joined (l r m : Int) : Ops (joined l r m) 2100 Tr := by
  unfold joined
  refine Ops.bind' (ops_joinWay 700 m m l r []) (c := 700) (fun x h => (ops_joinUp _ _).le ?_) (by omega)
  rw [List.length_reverse]; simpa using h
theorem ops_rebuilt (key : Th) (more : Int) : ∀ (l : List Nd) (r : Int), Ops (rebuilt key more l r) l.length Tr
  | [], _ => True.intro
  | n :: ns, r => by
    unfold rebuilt
    split
    · exact fun x => ops_rebuilt key more ns x
    · exact fun x => ops_rebuilt key more ns x
theorem ops_putP (key worth : Th) : ∀ (f : Nat) (c r : Int) (way : List Nd), Ops (putP key worth f c r way) (2 * f + way.length + 700) Tr
  | 0, _, _, _ => True.intro
  | f + 1, c, r, way => by
    have up : ∀ (m : Int) (t : Th), Ops (.lay t fun x => rebuilt key m way.reverse x) (way.length + 1) Tr := fun m t x => by
      have := ops_rebuilt key m way.reverse x
      rw [List.length_reverse] at this
      exact this
    unfold putP
    split
    · exact (up 1 _).le (by omega)
    · refine Ops.bind' (ops_nodeBeneath r c) (c := 2 * f + 1 + way.length + 700) (fun n _ => ?_) (by omega)
      split
      · exact (up 0 _).le (by omega)
      · split
        · exact Ops.bind' (ops_partP r key) (c := way.length + 1) (fun lr _ => up 1 _) (by omega)
        · exact (ops_putP key worth f _ _ (way ++ [n])).le (by rw [List.length_append, List.length_singleton]; omega)
theorem ops_putW (r : Int) (key worth : Th) : Ops (putW r key worth) 1400 Tr := (ops_putP key worth 302 301 r []).le (by simp)
theorem ops_cutP (key : Th) (whole : Int) : ∀ (f : Nat) (c r : Int) (way : List Nd), Ops (cutP key whole f c r way) (2 * f + way.length + 2200) Tr
  | 0, _, _, _ => True.intro
  | f + 1, c, r, way => by
    unfold cutP
    split
    · exact True.intro
    · refine Ops.bind' (ops_nodeBeneath r c) (c := 2 * f + 1 + way.length + 2200) (fun n _ => ?_) (by omega)
      split
      · refine Ops.bind' (ops_joined _ _ _) (c := way.length) (fun x _ => ?_) (by omega)
        have := ops_rebuilt key (-1) way.reverse x
        rw [List.length_reverse] at this
        exact this
      · exact (ops_cutP key whole f _ _ (way ++ [n])).le (by rw [List.length_append, List.length_singleton]; omega)
theorem ops_cutW (r : Int) (key : Th) : Ops (cutW r key) 3000 Tr := (ops_cutP key r 302 301 r []).le (by simp)
theorem ops_one (a : Ask) (r : Int) : Ops (a.one r) 4000 Tr := by
  cases a with
  | find key => exact Ops.bind' (ops_found key 302 301 r) (c := 0) (fun _ _ => True.intro) (by omega)
  | stretch low high =>
    refine Ops.bind' (b := 3000) (R := Tr) ?_ (c := 0) (fun _ _ => True.intro) (by omega)
    unfold stretchW
    split
    · exact True.intro
    · exact ops_stretch low high 1000 _ _
  | count low high => exact Ops.bind' (ops_counted r low high) (c := 0) (fun _ _ => True.intro) (by omega)
  | nth k =>
    refine Ops.bind' (b := 604) (R := Tr) ?_ (c := 0) (fun _ _ => True.intro) (by omega)
    unfold nthW
    split
    · exact True.intro
    · exact ops_nthP 302 301 r k
  | put key worth => exact Ops.bind' (ops_putW r key worth) (c := 0) (fun _ _ => True.intro) (by omega)
  | cut key => exact Ops.bind' (ops_cutW r key) (c := 0) (fun _ _ => True.intro) (by omega)
theorem ops_many (r : Int) : ∀ (l : List Ask) (acc : List An), Ops (manyP r l acc) (4000 * l.length) Tr
  | [], _ => True.intro
  | a :: as, acc => by
    unfold manyP
    exact Ops.bind' (ops_one a r) (fun x _ => ops_many r as (acc ++ [x])) (by rw [List.length_cons]; omega)
def Qs.len : Qs → Nat
  | .one _ => 1
  | .also l => l.length
theorem ops_qs (q : Qs) (r : Int) : Ops (q.run r) (4000 * q.len) Tr := by
  cases q with
  | one a => exact (ops_one a r).le (by simp [Qs.len])
  | also l => exact Ops.bind' (ops_many r l []) (c := 0) (fun _ _ => True.intro) (by simp [Qs.len])
theorem ops_layAll : ∀ l : List Th, Ops (layAll l) l.length Tr
  | [] => True.intro
  | t :: ts => fun x => ops_layAll ts
end Pv
set_option Elab.async false
set_option linter.all false
set_option maxRecDepth 100000
set_option maxHeartbeats 4000000
/-! Vaults in the heap. -/
namespace Wk
open PySem PySem.Spec PyProof.Rows L2 Pv Ph
variable {K : PySem.W.Frag}
/-! ### stores as dicts -/
abbrev KvR (H : Hp) (kvs : List (Key × V)) (st : Store) : Prop := Paired (fun (p : Key × V) (q : Int × Th) => p.1 = .inl q.1 ∧ IsT H p.2 q.2) kvs st
def DictS (H : Hp) (d : Addr) (st : Store) : Prop := ∃ kvs, H d = some (.dK kvs) ∧ KvR H kvs st
theorem KvR.ext {H H' : Hp} (e : Tups H H') {kvs : List (Key × V)} {st : Store} (h : KvR H kvs st) : KvR H' kvs st := Paired.mapP h fun _ _ z => ⟨z.1, z.2.ext e⟩
theorem KvR.len {H : Hp} {kvs : List (Key × V)} {st : Store} (h : KvR H kvs st) : kvs.length = st.length := Paired.length h
theorem KvR.none {H : Hp} {kvs : List (Key × V)} {st : Store} (h : KvR H kvs st) {n : Int} (e : Store.get st n = none) : valV kvs (.inl n) = none := by
  unfold KvR at h
  induction h with
  | nil => rfl
  | @cons p q ps qs hp t ih =>
    rw [Store.get_cons] at e
    by_cases c : q.1 = n
    · rw [if_pos c] at e; cases e
    · rw [if_neg c] at e
      rw [valV_neg (fun z => c (by rw [hp.1] at z; injection z))]
      exact ih e
theorem KvR.some {H : Hp} {kvs : List (Key × V)} {st : Store} (h : KvR H kvs st) {n : Int} {t : Th} (e : Store.get st n = some t) : ∃ x, valV kvs (.inl n) = some x ∧ IsT H x t := by
  unfold KvR at h
  induction h with
  | nil => cases e
  | @cons p q ps qs hp tt ih =>
    rw [Store.get_cons] at e
    by_cases c : q.1 = n
    · rw [if_pos c] at e
      cases e
      exact ⟨p.2, valV_pos (by rw [hp.1, c]), hp.2⟩
    · rw [if_neg c] at e
      rw [valV_neg (fun z => c (by rw [hp.1] at z; injection z))]
      exact ih e
theorem KvR.any {H : Hp} {kvs : List (Key × V)} {st : Store} (h : KvR H kvs st) (n : Int) : (kvs.any fun kv => decide (kv.1 = .inl n)) = (st.any fun p => decide (p.1 = n)) := by
  unfold KvR at h
  induction h with
  | nil => rfl
  | @cons p q ps qs hp t ih =>
    rw [List.any_cons, List.any_cons, ih]
    congr 1
    rw [hp.1]
    by_cases c : q.1 = n
    · rw [c]; simp
    · have c' : ¬ (Sum.inl q.1 : Key) = Sum.inl n := fun z => c (by injection z)
      rw [decide_eq_false c, decide_eq_false c']
theorem KvR.put {H : Hp} {kvs : List (Key × V)} {st : Store} (h : KvR H kvs st) {n : Int} {x : V} {t : Th} (hx : IsT H x t) : KvR H (putK kvs (.inl n) x) (st.put n t) := by
  unfold putK Store.put
  rw [h.any n]
  split
  · rename_i c
    clear c
    unfold KvR at h ⊢
    induction h with
    | nil => exact .nil
    | @cons p q ps qs hp tt ih =>
      rw [List.map_cons, List.map_cons]
      refine .cons ?_ ih
      by_cases c : q.1 = n
      · rw [if_pos c, if_pos (by rw [hp.1, c])]
        exact ⟨hp.1, hx⟩
      · rw [if_neg c, if_neg (fun z => c (by rw [hp.1] at z; injection z))]
        exact hp
  · exact Paired.snoc h ⟨rfl, hx⟩
theorem KvR.keys {H : Hp} {kvs : List (Key × V)} {st : Store} (h : KvR H kvs st) : kvs.map (·.1) = (st.map (·.1)).map Sum.inl := by
  unfold KvR at h
  induction h with
  | nil => rfl
  | cons hp t ih => rw [List.map_cons, List.map_cons, List.map_cons, ih, hp.1]

/-! ### heaps kept but for lists; kept outside M -/
def isLst : HO → Prop
  | .lst _ => True
  | _ => False
def Keeps (H H' : Hp) : Prop := ∀ b o, H b = some o → ¬ isLst o → H' b = some o
theorem Keeps.of_same {H H' : Hp} (s : Same H H') : Keeps H H' := fun b o e _ => s b o e
theorem Keeps.refl (H : Hp) : Keeps H H := fun _ _ e _ => e
theorem Keeps.trans {H H1 H2 : Hp} (a : Keeps H H1) (b : Keeps H1 H2) : Keeps H H2 := fun c o e n => b c o (a c o e n) n
theorem Keeps.list {H : Hp} {l : Addr} {xs ys : List V} (h : H l = some (.lst xs)) : Keeps H (upd H l (.lst ys)) := fun b o e n => by
  rw [upd_ne (fun z => by subst z; rw [h] at e; cases e; exact n True.intro)]
  exact e
theorem Keeps.tups {H H' : Hp} (k : Keeps H H') : Tups H H' := fun a xs e => k a _ e fun z => z
def Step (M : List Addr) (H H' : Hp) : Prop := ∀ b o, H b = some o → b ∉ M → H' b = some o
theorem Step.of_same {M : List Addr} {H H' : Hp} (s : Same H H') : Step M H H' := fun b o e _ => s b o e
theorem Step.refl (M : List Addr) (H : Hp) : Step M H H := fun _ _ e _ => e
theorem Step.trans {M : List Addr} {H H1 H2 : Hp} (a : Step M H H1) (b : Step M H1 H2) : Step M H H2 := fun c o e n => b c o (a c o e n) n
theorem Step.mono {M N : List Addr} {H H' : Hp} (a : Step M H H') (h : ∀ b ∈ M, b ∈ N) : Step N H H' := fun c o e n => a c o e fun z => n (h c z)
theorem Step.up {M : List Addr} {H H' : Hp} {l : Addr} {o : HO} (a : Step M H H') (h : H l = none ∨ l ∈ M) : Step M H (upd H' l o) := fun b u e n => by
  rw [upd_ne]
  · exact a b u e n
  · intro z
    subst z
    rcases h with h | h
    · rw [h] at e; cases e
    · exact n h
theorem Step.free {M : List Addr} {H H' : Hp} (a : Step M H H') {l : Addr} (h : H' l = none) (hm : ∀ d ∈ M, H' d ≠ none) : H l = none := by
  cases q : H l with
  | none => rfl
  | some o =>
    have : l ∉ M := fun z => hm l z h
    rw [a l o q this] at h
    cases h

/-! ### vaults -/
structure Goods (s : VS) : Prop where
  g : s.Good
inductive VaultAt (K : PySem.W.Frag) (H : Hp) : V → VS → List Addr → Prop
  | base {C : Str} {a dx d : Addr} {st : Store} (hC : C = "Keeper" ∨ C = "Witness") (ha : H a = some (.ins (ad K C) dx [("by_seal", .ref d)])) (hd : DictS H d st) (hg : st.Good) : VaultAt K H (.ref a) (.base st) [d]
  | reader {a dx d e kp kdx kd : Addr} {k o m : Store} (ha : H a = some (.ins (ad K "Reader") dx [("by_seal", .ref d), ("beneath", .ref kp), ("noted", .ref e)])) (hkp : H kp = some (.ins (ad K "Keeper") kdx [("by_seal", .ref kd)]))
      (hk : DictS H kd k) (ho : DictS H d o) (hm : DictS H e m) (ne1 : d ≠ kd) (ne2 : e ≠ kd) (ne3 : d ≠ e) (gk : k.Good) (go : o.Good) (gm : m.Good) : VaultAt K H (.ref a) (.reader k o m) [d, e]
theorem DictS.keep {H H' : Hp} (k : Keeps H H') {d : Addr} {st : Store} (h : DictS H d st) : DictS H' d st := by
  obtain ⟨kvs, e, r⟩ := h
  exact ⟨kvs, k _ _ e fun z => z, r.ext k.tups⟩
theorem VaultAt.keep {H H' : Hp} (k : Keeps H H') {v : V} {s : VS} {M : List Addr} (h : VaultAt K H v s M) : VaultAt K H' v s M := by
  cases h with
  | base hC ha hd hg => exact .base hC (k _ _ ha fun z => z) (hd.keep k) hg
  | reader ha hkp hk ho hm ne1 ne2 ne3 gk go gm => exact .reader (k _ _ ha fun z => z) (k _ _ hkp fun z => z) (hk.keep k) (ho.keep k) (hm.keep k) ne1 ne2 ne3 gk go gm
theorem VaultAt.same {H H' : Hp} (k : Same H H') {v : V} {s : VS} {M : List Addr} (h : VaultAt K H v s M) : VaultAt K H' v s M := h.keep (Keeps.of_same k)
theorem VaultAt.dict {H : Hp} {v : V} {s : VS} {M : List Addr} (h : VaultAt K H v s M) : ∀ d ∈ M, ∃ kvs, H d = some (.dK kvs) := by
  cases h with
  | base hC ha hd hg =>
    intro d' hd'
    obtain ⟨kvs, e, _⟩ := hd
    rw [List.mem_singleton.mp hd']
    exact ⟨kvs, e⟩
  | reader ha hkp hk ho hm ne1 ne2 ne3 gk go gm =>
    intro d' hd'
    obtain ⟨kvs, e, _⟩ := ho
    obtain ⟨kvs2, e2, _⟩ := hm
    rcases List.mem_cons.mp hd' with z | z
    · rw [z]; exact ⟨kvs, e⟩
    · rw [List.mem_singleton.mp z]; exact ⟨kvs2, e2⟩
theorem VaultAt.good {H : Hp} {v : V} {s : VS} {M : List Addr} (h : VaultAt K H v s M) : s.Good := by
  cases h with
  | base hC ha hd hg => exact hg
  | reader ha hkp hk ho hm ne1 ne2 ne3 gk go gm => exact ⟨gk, go, gm⟩
/-- what is tracked and no dict stands outside M -/
theorem Step.keep {M : List Addr} {H H' : Hp} (st : Step M H H') (hM : ∀ d ∈ M, ∃ kvs, H d = some (.dK kvs)) {b : Addr} {o : HO} (e : H b = some o) (n : ∀ kvs, o ≠ .dK kvs) : H' b = some o := st b o e fun z => by
  obtain ⟨kvs, q⟩ := hM b z
  rw [e] at q
  exact n kvs (Option.some.inj q)
theorem Step.tups {M : List Addr} {H H' : Hp} (st : Step M H H') (hM : ∀ d ∈ M, ∃ kvs, H d = some (.dK kvs)) : Tups H H' := fun a xs e => st.keep hM e fun _ z => nomatch z

/-! ### what a program's exceptions are -/
def ExR (K : PySem.W.Frag) (H : Hp) : Ex → Value → Option Addr → Prop
  | .noPaper, cls, d => cls = .ref (ad K "NoPaper") ∧ d = none
  | .clash x y, cls, d => cls = .ref (ad K "Clash") ∧ ∃ dd xv yv, d = some dd ∧ H dd = some (.xd [("other", yv), ("one", xv)]) ∧ IsT H xv x ∧ IsT H yv y
/-- what E owes -/
def Er (K : PySem.W.Frag) (M : List Addr) (H0 : Hp) (E : XK) : Ex → Prop := fun e => ∀ H' cls d, Step M H0 H' → ExR K H' e cls d → E cls d H'
/-- a call of a def that does P on the vault v -/
def Does (K : PySem.W.Frag) (H : Hp) (v : V) {α : Type} (p : Pg α) (R : Hp → V → α → Prop) (Q : VK) (E : XK) : Prop :=
  ∃ M s, VaultAt K H v s M ∧ wq p s (fun a s' => ∀ H' x, Step M H H' → VaultAt K H' v s' M → R H' x a → Q x H') (Er K M H E)
/-- within such a def: H0 the heap at its entry, p what is to be done yet -/
def Run (K : PySem.W.Frag) (H0 : Hp) (M : List Addr) (E : XK) (v : V) {α : Type} (p : Pg α) (Qf : α → VS → Prop) (H : Hp) : Prop :=
  ∃ s, Step M H0 H ∧ VaultAt K H v s M ∧ wq p s Qf (Er K M H0 E)
section
variable {H0 H H1 : Hp} {M : List Addr} {E : XK} {v : V} {α β : Type} {p : Pg α} {f : α → Pg β} {R : Hp → V → α → Prop} {Q : VK}
theorem Does.start (h : Does K H v p R Q E) : ∃ M, (∀ d ∈ M, ∃ kvs, H d = some (.dK kvs)) ∧ Run K H M E v p (fun a s' => ∀ H' x, Step M H H' → VaultAt K H' v s' M → R H' x a → Q x H') H := by
  obtain ⟨M, s, V0, w⟩ := h
  exact ⟨M, V0.dict, s, Step.refl M H, V0, w⟩
theorem Run.dict {Qf : α → VS → Prop} (h : Run K H0 M E v p Qf H) : ∀ d ∈ M, ∃ kvs, H d = some (.dK kvs) := by
  obtain ⟨s, _, V0, _⟩ := h
  exact V0.dict
theorem Run.step {Qf : α → VS → Prop} (h : Run K H0 M E v p Qf H) : Step M H0 H := by
  obtain ⟨s, st, _, _⟩ := h
  exact st
/-- tuples, exceptions laid; lists of one's own changed -/
theorem Run.keep {Qf : α → VS → Prop} (h : Run K H0 M E v p Qf H) (st : Step M H0 H1) (k : Keeps H H1) : Run K H0 M E v p Qf H1 := by
  obtain ⟨s, _, V0, w⟩ := h
  exact ⟨s, st, V0.keep k, w⟩
theorem Run.same {Qf : α → VS → Prop} (h : Run K H0 M E v p Qf H) (k : Same H H1) : Run K H0 M E v p Qf H1 := h.keep (h.step.trans (Step.of_same k)) (Keeps.of_same k)
/-- a call of p, then f -/
theorem Run.call {Qf : β → VS → Prop} (h : Run K H0 M E v (p.bind f) Qf H) (k : ∀ a H1 x, Step M H H1 → Run K H0 M E v (f a) Qf H1 → R H1 x a → Q x H1) : Does K H v p R Q E := by
  obtain ⟨s, st, V0, w⟩ := h
  refine ⟨M, s, V0, wq_mono p s (fun a s' q H1 x s1 V1 r => k a H1 x s1 ⟨s', st.trans s1, V1, q⟩ r) (fun e q H1 cls d s1 x => q H1 cls d (st.trans s1) x) ((wq_bind_iff p f s).mp w)⟩
/-- the last call -/
theorem Run.tail {Qf : α → VS → Prop} (h : Run K H0 M E v p Qf H) (k : ∀ a H1 x, Step M H H1 → Run K H0 M E v (.ret a) Qf H1 → R H1 x a → Q x H1) : Does K H v p R Q E := by
  obtain ⟨s, st, V0, w⟩ := h
  exact ⟨M, s, V0, wq_mono p s (fun a s' q H1 x s1 V1 r => k a H1 x s1 ⟨s', st.trans s1, V1, q⟩ r) (fun e q H1 cls d s1 x => q H1 cls d (st.trans s1) x) w⟩
/-- the end -/
theorem Run.ret {a : α} {R0 : Hp → V → α → Prop} {Q0 : VK} {x : V} (h : Run K H0 M E v (.ret a) (fun a s' => ∀ H' x, Step M H0 H' → VaultAt K H' v s' M → R0 H' x a → Q0 x H') H) (r : R0 H x a) : Q0 x H := by
  obtain ⟨s, st, V0, w⟩ := h
  exact w H x st V0 r
theorem Run.of_eq {p' : Pg α} {Qf : α → VS → Prop} (h : Run K H0 M E v p Qf H) (e : p = p') : Run K H0 M E v p' Qf H := e ▸ h
theorem Run.bad {Qf : α → VS → Prop} (h : Run K H0 M E v (.bad) Qf H) : False := by
  obtain ⟨s, _, _, w⟩ := h
  exact w
/-- what must hold of a thing that is laid -/
theorem Run.okLay {t : Th} {k : Int → Pg α} {Qf : α → VS → Prop} (h : Run K H0 M E v (.lay t k) Qf H) : Ok 3 t := by
  obtain ⟨s, _, _, w⟩ := h
  cases e : s.lay t with
  | ok s' => rw [wq_lay_ok e] at w; exact w.2.1
  | error x => rw [wq_lay_error e] at w; exact w.2.1
end
theorem lay_bind {α : Type} (t : Th) (k : Int → Pg α) : Pg.lay t k = (Pg.lay t .ret).bind k := rfl
theorem thing_bind {α : Type} (n : Int) (k : Th → Pg α) : Pg.thing n k = (Pg.thing n .ret).bind k := rfl
end Wk
set_option Elab.async false
set_option linter.all false
set_option maxRecDepth 100000
set_option maxHeartbeats 4000000
/-! The vaults' methods. -/
namespace Wk
open PySem PySem.Spec PyProof.Rows L2 Pv Ph
variable {P : Program} {w : World} {K : PySem.W.Frag} {mg : Str → Option Value} {base : Heap}
/-! ### Clash -/
theorem exc_cls {C : Addr} (q : excClsB K C = true) : ∃ nm q N bs bm sn sub ab col dd k0 k1 k2 k3 k5, K.lookup C = some (excClassObj nm q C N bs bm true sn sub ab col dd k0 k1 k2 k3 k5 "ValueError.__new__") ∧ PySem.HandSPX.refsVE bm = true := by
  unfold excClsB at q
  split at q
  · rename_i dd cd sl ho
    split at q
    · rename_i C' bm k0 k1 k2 k3 n k5 hm hs
      simp only [Bool.and_eq_true, beq_iff_eq, Bool.not_eq_true'] at q
      obtain ⟨⟨⟨⟨rfl, rfl⟩, hdel⟩, hhd⟩, hr⟩ := q
      obtain ⟨nm, bs, mro, ns, qn, hd, sn, sub, ab, col, del⟩ := cd
      dsimp only at hm hdel hhd
      subst hm hdel hhd
      have hsl : sl = #[k0, k1, k2, k3, some (.builtin "ValueError.__new__"), k5] := by
        obtain ⟨l⟩ := sl
        simp only at hs
        rw [hs]
      subst hsl
      exact ⟨nm, qn, ns, bs, bm, sn, sub, ab, col, dd, k0, k1, k2, k3, k5, ho, hr⟩
    · cases q
  · cases q
theorem oexC (T : Tx K mg) : OexC K (ad K "Clash") := ⟨exc_cls T.o_Clash, T.o_sa, T.e_Clash, T.t_Clash, T.b_Clash.k⟩
def spClash (K : PySem.W.Frag) : Sp := fun vs H Q _ => ∃ a x y, vs = [.ref a, x, y] ∧ H a = some (exo a (ad K "Clash") none) ∧
  ∀ dx, H dx = none → dx ≠ a → Q .non (upd (upd (upd H dx (exd dx [("one", x)])) a (exo a (ad K "Clash") (some dx))) dx (exd dx [("other", y), ("one", x)]))
theorem fo_Clash (T : Tx K mg) : Fo P w K mg base CX0 1 (am K "Clash" "__init__") (spClash K) := by
  have S : FnScope ["self", "one", "other"] ["self", "one", "other"] (defScope (inner (top 5) 0)) := ⟨rfl, rfl, rfl, by decide +kernel, rfl, by decide +kernel, by decide +kernel⟩
  refine T.d_Clash_init.ok S (fun _ _ _ _ _ _ us hl => match us, hl with | [_, _, _], _ => rfl) (fun vs H Q E h => by obtain ⟨a, x, y, rfl, _⟩ := h; rfl) (fun cdv A outer s H vs Q E hr h => ⟨_, PSs.nox ((pss_cons (ps_expr (Rl.pe_clsi (pe_glob (v := V.ref (ad K "VaultError")) rfl T.b_VaultError.g rfl) T.r_VaultError.rd_ T.v_VaultError_init (pa_cons (pv 0) (pa_cons pe_str pa_nil)))) (pss_cons (ps_ost (pv 0) (pv 1)) (pss_one (ps_ost (pv 0) (pv 2)))))), ?_⟩)
  obtain ⟨a, x, y, rfl, ha, k⟩ := h
  refine ⟨rfl, _, rfl, a, _, _, rfl, by decide, oexC T, ha, ?_⟩
  refine ⟨_, rfl, _, rfl, a, _, rfl, oexC T, T.f_Clash_one, .inl ⟨ha, fun dx hd ne => ?_⟩⟩
  exact ⟨_, rfl, _, rfl, a, _, rfl, oexC T, T.f_Clash_other, .inr ⟨dx, _, upd_same, by rw [upd_ne ne]; exact upd_same, by show 1 ≤ 900; decide, k dx hd ne⟩⟩
/-! ### Vault -/
def VcC (K : PySem.W.Frag) (C : Addr) : Prop := C = ad K "Keeper" ∨ C = ad K "Witness" ∨ C = ad K "Reader"
theorem VcC.cls (T : Tx K mg) {C : Addr} (h : VcC K C) : Cls K C ∧ NoAttr K C "by_seal" := by
  rcases h with rfl | rfl | rfl
  · exact ⟨T.c_Keeper, T.f_Keeper_by_seal⟩
  · exact ⟨T.c_Witness, T.f_Witness_by_seal⟩
  · exact ⟨T.c_Reader, T.f_Reader_by_seal⟩
def spVinit (K : PySem.W.Frag) : Sp := fun vs H Q _ => ∃ a C dx, vs = [.ref a] ∧ VcC K C ∧ H a = some (.ins C dx []) ∧ ∀ d, H d = none → Q .non (upd (upd H d (.dK [])) a (.ins C dx [("by_seal", .ref d)]))
theorem fo_Vinit (T : Tx K mg) : Fo P w K mg base CX0 1 (am K "Vault" "__init__") (spVinit K) := by
  have S : FnScope ["self"] ["self"] (defScope (inner (top 40) 0)) := ⟨rfl, rfl, rfl, by decide +kernel, rfl, by decide +kernel, by decide +kernel⟩
  refine T.d_Vault_init.ok S (fun _ _ _ _ _ _ us hl => match us, hl with | [_], _ => rfl) (fun vs H Q E h => by obtain ⟨a, C, dx, rfl, _⟩ := h; rfl) (fun cdv A outer s H vs Q E hr h => ⟨_, PSs.nox ((pss_one (ps_fld (pv 0) pe_dnewK rfl))), ?_⟩)
  obtain ⟨a, C, dx, rfl, hC, ha, k⟩ := h
  refine fun d hd => ⟨_, rfl, a, C, dx, [], rfl, ?_, (hC.cls T).1, (hC.cls T).2, by decide, k d hd⟩
  rw [upd_ne (ne_of_none ha hd)]
  exact ha
/-- an instance of a vault's class with its dict -/
structure Vd (K : PySem.W.Frag) (H : Hp) (a : Addr) (d : Addr) (st : Store) : Prop where
  ins : ∃ C dx fs, VcC K C ∧ H a = some (.ins C dx fs) ∧ fs.lookup ("by_seal" : Str) = some (.ref d)
  dict : DictS H d st
def spVhas (K : PySem.W.Frag) : Sp := fun vs H Q _ => ∃ a n d st, vs = [.ref a, .int n] ∧ Vd K H a d st ∧ Q (.bl (Store.get st n).isSome) H
theorem dget_some {H : Hp} {d : Addr} {st : Store} (h : DictS H d st) (n : Int) : ∃ o, DGet H d (.int n) o ∧ o.isSome = (Store.get st n).isSome ∧ ∀ t, Store.get st n = some t → ∃ x, o = some x ∧ IsT H x t := by
  obtain ⟨kvs, e, r⟩ := h
  refine ⟨_, DGet.k (k := .inl n) e, ?_, fun t ht => r.some ht⟩
  cases q : Store.get st n with
  | none => rw [r.none q]; rfl
  | some t =>
    obtain ⟨x, hx, _⟩ := r.some q
    rw [hx]
    rfl
theorem fo_Vhas (T : Tx K mg) : Fo P w K mg base CX0 1 (am K "Vault" "has") (spVhas K) := by
  have S : FnScope ["self", "number"] ["self", "number"] (defScope (inner (top 40) 3)) := ⟨rfl, rfl, rfl, by decide +kernel, rfl, by decide +kernel, by decide +kernel⟩
  refine T.d_Vault_has.ok S (fun _ _ _ _ _ _ us hl => match us, hl with | [_, _], _ => rfl) (fun vs H Q E h => by obtain ⟨a, n, d, st, rfl, _⟩ := h; rfl) (fun cdv A outer s H vs Q E hr h => ?_)
  have hu := hu_of hr
  refine ⟨_, PSs.nox ((pss_one (ps_ret (pe_cmp (pc_din hu (pv 1) (pe_fld (pv 0) rfl)))))), ?_⟩
  obtain ⟨a, n, d, st, rfl, ⟨⟨C, dx, fs, hC, ha, hl⟩, hd⟩, k⟩ := h
  obtain ⟨o, g, e, _⟩ := dget_some hd n
  refine ⟨_, rfl, _, rfl, a, C, dx, fs, _, rfl, ha, (hC.cls T).1, (hC.cls T).2, hl, d, o, rfl, g, ?_⟩
  rw [e]
  exact k
def spVthing (K : PySem.W.Frag) : Sp := fun vs H Q E => ∃ a n d st, vs = [.ref a, .int n] ∧ Vd K H a d st ∧ (∀ t x, Store.get st n = some t → IsT H x t → Q x H) ∧ (Store.get st n = none → E (.ref (ad K "NoPaper")) none H)
theorem fo_Vthing (T : Tx K mg) : Fo P w K mg base (L2.CX P w) 1 (am K "Vault" "thing") (spVthing K) := by
  have S : FnScope ["self", "number"] ["self", "number"] (defScope (inner (top 40) 2)) := ⟨rfl, rfl, rfl, by decide +kernel, rfl, by decide +kernel, by decide +kernel⟩
  refine T.d_Vault_thing.ok S (fun _ _ _ _ _ _ us hl => match us, hl with | [_, _], _ => rfl) (fun vs H Q E h => by obtain ⟨a, n, d, st, rfl, _⟩ := h; rfl) (fun cdv A outer s H vs Q E hr h => ?_)
  have hu := hu_of hr
  refine ⟨_, (pss_cons (ps_if (pt_cmp (pc_dnotin hu (pv 1) (pe_fld (pv 0) rfl))) (pss_one (ps_raise rfl takeX (pmk_own PySem.F.excBase_ValueError T.x_NoPaper T.b_NoPaper.g T.b_NoPaper.k (raises_own T.e_NoPaper T.t_NoPaper) rfl))) pss_nil) (pss_one (ps_ret (pe_dget hu (pe_fld (pv 0) rfl) (pv 1) (fun _ _ => rfl))))), ?_⟩
  obtain ⟨a, n, d, st, rfl, ⟨⟨C, dx, fs, hC, ha, hl⟩, hd⟩, k, kx⟩ := h
  obtain ⟨o, g, e, gx⟩ := dget_some hd n
  refine ⟨_, rfl, _, rfl, a, C, dx, fs, _, rfl, ha, (hC.cls T).1, (hC.cls T).2, hl, d, o, rfl, g, _, rfl, ite2 (fun c => ?_) (fun c => ?_)⟩
  · refine kx ?_
    rw [e] at c
    cases q : Store.get st n with
    | none => rfl
    | some t => rw [q] at c; cases c
  · cases q : Store.get st n with
    | none => rw [e, q] at c; exact absurd rfl c
    | some t =>
      obtain ⟨x, rfl, hx⟩ := gx t q
      exact ⟨_, rfl, a, C, dx, fs, _, rfl, ha, (hC.cls T).1, (hC.cls T).2, hl, _, rfl, d, x, rfl, g, k t x q hx⟩

theorem clash_heap {H : Hp} {e d : Addr} {o1 o2 o3 o4 o5 : HO} (he : H e = none) (hd : H d = none) : Same H (upd (del (upd (upd (upd (upd H e o1) d o2) e o3) d o4) e) d o5) := fun b u q => by
  have h1 := ne_of_none q he
  have h2 := ne_of_none q hd
  rw [upd_ne h2, del_ne h1, upd_ne h2, upd_ne h1, upd_ne h2, upd_ne h1]
  exact q
def CxE (K : PySem.W.Frag) (H : Hp) (E : XK) (x t : Th) : Prop := ∀ H' dd xv tv, Same H H' → H' dd = some (.xd [("other", tv), ("one", xv)]) → IsT H' xv x → IsT H' tv t → E (.ref (ad K "Clash")) (some dd) H'
/-- the reading of Clash(x, t) -/
theorem clash_raise {H : Hp} {E : XK} {x t : Th} {xv tv : V} (hx : IsT H xv x) (ht : IsT H tv t) (k : CxE K H E x t) :
    [xv, tv].length ≤ 1000 ∧ ∀ a, H a = none → spClash K (.ref a :: ([xv, tv] ++ [])) (upd H a (exo a (ad K "Clash") none))
      (fun v H2 => v = .non ∧ ∃ (d : Addr) (fs : List (Str × V)), H2 a = some (exo a (ad K "Clash") (some d)) ∧ H2 d = some (exd d fs) ∧ H d = none ∧ E (.ref (ad K "Clash")) (some d) (upd (del H2 a) d (.xd fs))) (fun _ _ _ => False) := by
  refine ⟨by show 2 ≤ 1000; decide, fun a ha => ⟨a, xv, tv, rfl, upd_same, fun d hd ne => ?_⟩⟩
  have hd' : H d = none := by rw [upd_ne ne] at hd; exact hd
  refine ⟨rfl, d, _, by rw [upd_ne (Ne.symm ne)]; exact upd_same, upd_same, hd', ?_⟩
  have sm := clash_heap (o1 := exo a (ad K "Clash") none) (o2 := exd d [("one", xv)]) (o3 := exo a (ad K "Clash") (some d)) (o4 := exd d [("other", tv), ("one", xv)]) (o5 := .xd [("other", tv), ("one", xv)]) ha hd'
  exact k _ d xv tv sm upd_same (hx.same sm) (ht.same sm)
def spVlay (K : PySem.W.Frag) : Sp := fun vs H Q E => ∃ a v t d st, vs = [.ref a, v] ∧ Vd K H a d st ∧ st.length < lim ∧ st.Good ∧ IsT H v t ∧ Ok 3 t ∧
  (∀ x, st.laid t = some x → CxE K H E x t) ∧ (st.laid t = none → ∀ H', Step [d] H H' → DictS H' d (st.put (sealOf t) t) → Q (.int (sealOf t)) H')
theorem Vd.same {H H' : Hp} (s : Same H H') {a d : Addr} {st : Store} (h : Vd K H a d st) : Vd K H' a d st := by
  obtain ⟨⟨C, dx, fs, hC, ha, hl⟩, hd⟩ := h
  exact ⟨⟨C, dx, fs, hC, s _ _ ha, hl⟩, hd.keep (Keeps.of_same s)⟩
theorem CxE.same {H H' : Hp} {E : XK} {x t : Th} (h : CxE K H E x t) (s : Same H H') : CxE K H' E x t := fun H2 dd xv tv s2 => h H2 dd xv tv (s.trans s2)
theorem lim_line {n : Nat} (h : n < lim) : n < sizeLine := Nat.lt_of_lt_of_le h (by decide)
theorem ok_depth {t : Th} {d : Nat} (h : Ok d t) (hd : d ≤ 60) : t.depth ≤ 60 := Nat.le_trans h.depth hd
theorem DictS.put {H : Hp} {d : Addr} {st : Store} {v : V} {t : Th} {n : Int} (h : DictS H d st) (hv : IsT H v t) (hz : st.length < lim) : ∃ H', DPut H d (.int n) v H' ∧ Step [d] H H' ∧ DictS H' d (st.put n t) ∧ ∃ u, H' = upd H d u ∧ ∃ kvs, u = .dK kvs := by
  obtain ⟨kvs, e, r⟩ := h
  refine ⟨_, DPut.k (k := .inl n) e (by rw [r.len]; exact lim_line hz), (Step.refl [d] H).up (.inr List.mem_cons_self), ⟨_, upd_same, (r.put hv).ext ?_⟩, _, rfl, _, rfl⟩
  intro a xs q
  rw [upd_ne (fun z => by subst z; rw [e] at q; cases q)]
  exact q
theorem fo_Vlay (T : Tx K mg) : Fo P w K mg base (L2.CX P w) 7 (am K "Vault" "lay") (spVlay K) := by
  have S : FnScope ["self", "new", "number"] ["self", "new"] (defScope (inner (top 40) 1)) := ⟨rfl, rfl, rfl, by decide +kernel, rfl, by decide +kernel, by decide +kernel⟩
  refine T.d_Vault_lay.ok S (fun _ _ _ _ _ _ us hl => match us, hl with | [_, _], _ => rfl) (fun vs H Q E h => by obtain ⟨a, v, t, d, st, rfl, _⟩ := h; rfl) (fun cdv A outer s H vs Q E hr h => ?_)
  have hu := hu_of hr
  have hu6 := hr.units
  have hr_seal := hr
  have hr1 : Room 2 _ := hr.mono (by decide)
  have F_seal : Fo P w K mg base CX0 6 (ad K "seal") spSeal := fo_seal T
  obtain ⟨⟨fdC, psC, F1, b1⟩, _⟩ := fo_Clash (P := P) (w := w) (base := base) T
  have OX := oexC T
  refine ⟨_, (pss_cons (ps_set (i := 2) S.nd rfl (Or.inl rfl) (pe_fn F_seal hr_seal rfl T.b_seal.g pass0 (pa_cons (pv 1) pa_nil))) (pss_cons (ps_if (PW.pt (pw_and (pt_cmp (pc_din hu (pv 2) (pe_fld (pv 0) rfl))) (pw_and1 (pt_cmpR (op_neT hu6) (pe_dget hu (pe_fld (pv 0) rfl) (pv 2) (fun _ _ => rfl)) (pv 1) (nomark _))))) (pss_one (ps_raise rfl takeX (pmk_oex OX T.o_in T.o_ty F1 hr1 b1 .nil pass0 rfl T.b_Clash.g (pa_cons (pe_dget hu (pe_fld (pv 0) rfl) (pv 2) (fun _ _ => rfl)) (pa_cons (pv 1) pa_nil))))) pss_nil) (pss_cons (ps_dput hu (pe_fld (pv 0) rfl) (pv 2) (pv 1) rfl) (pss_one (ps_ret (pv 2)))))), ?_⟩
  obtain ⟨a, v, t, d, st, rfl, V0, hz, gs, hT, ok, kx, k⟩ := h
  refine ⟨_, rfl, v, t, rfl, hT, ok, fun H1 sm => ?_⟩
  have hT1 := hT.same sm
  obtain ⟨⟨C, dx, fs, hC, ha, hl⟩, hd⟩ := V0.same sm
  obtain ⟨o, g, e, gx⟩ := dget_some hd (sealOf t)
  have store : ∃ H2, DPut H1 d (.int (sealOf t)) v H2 ∧ Step [d] H H2 ∧ DictS H2 d (st.put (sealOf t) t) := by
    obtain ⟨H2, dp, s2, d2, _⟩ := hd.put (n := sealOf t) hT1 hz
    exact ⟨H2, dp, (Step.of_same sm).trans s2, d2⟩
  refine ⟨_, rfl, _, rfl, a, C, dx, fs, _, rfl, ha, (hC.cls T).1, (hC.cls T).2, hl, d, o, rfl, g, _, rfl, ite2 (fun c => ?_) (fun c => ?_)⟩
  · rw [e] at c
    obtain ⟨x, hx⟩ := Option.isSome_iff_exists.mp c
    obtain ⟨xv, rfl, hxv⟩ := gx x hx
    refine ⟨_, rfl, a, C, dx, fs, _, rfl, ha, (hC.cls T).1, (hC.cls T).2, hl, _, rfl, d, xv, rfl, g, _, rfl, x, t, hxv, hT1, ok_depth (Store.Good.get gs hx).1 (by decide), _, rfl, ite2 (fun c2 => ?_) (fun c2 => ?_)⟩
    · have ne : x ≠ t := fun e => by rw [e] at c2; simp at c2
      refine ⟨_, rfl, a, C, dx, fs, _, rfl, ha, (hC.cls T).1, (hC.cls T).2, hl, _, rfl, d, xv, rfl, g, _, rfl, ?_⟩
      exact clash_raise hxv hT1 ((kx x (by unfold Store.laid; rw [hx]; exact if_neg ne)).same sm)
    · have e2 : x = t := by
        by_cases z : x = t
        · exact z
        · exfalso; apply c2; simp [z]
      obtain ⟨H2, dp, s2, d2⟩ := store
      exact ⟨_, rfl, _, rfl, a, C, dx, fs, _, rfl, ha, (hC.cls T).1, (hC.cls T).2, hl, _, rfl, d, H2, rfl, dp, _, rfl, k (by unfold Store.laid; rw [hx]; exact if_pos e2) H2 s2 d2⟩
  · refine iteF ?_
    have hn : Store.get st (sealOf t) = none := by
      cases q : Store.get st (sealOf t) with
      | none => rfl
      | some x => rw [e, q] at c; exact absurd rfl c
    have e1 : st.laid t = none := by unfold Store.laid; rw [hn]
    obtain ⟨H2, dp, s2, d2⟩ := store
    exact ⟨_, rfl, _, rfl, a, C, dx, fs, _, rfl, ha, (hC.cls T).1, (hC.cls T).2, hl, _, rfl, d, H2, rfl, dp, _, rfl, k e1 H2 s2 d2⟩
end Wk
set_option Elab.async false
set_option linter.all false
set_option maxRecDepth 100000
set_option maxHeartbeats 4000000
/-! The vaults' methods, more. -/
namespace Wk
open PySem PySem.Spec PyProof.Rows L2 Pv Ph
variable {P : Program} {w : World} {K : PySem.W.Frag} {mg : Str → Option Value} {base : Heap}
/-! ### things, paper -/
/-- an instance of the class C with the dict f -/
structure Vf (K : PySem.W.Frag) (H : Hp) (C f : Str) (a : Addr) (d : Addr) (st : Store) : Prop where
  ins : ∃ dx fs, H a = some (.ins (ad K C) dx fs) ∧ fs.lookup f = some (.ref d)
  dict : DictS H d st
def spThings (K : PySem.W.Frag) (C f : Str) : Sp := fun vs H Q _ => ∃ a d st, vs = [.ref a] ∧ Vf K H C f a d st ∧ st.Good ∧ st.length < lim ∧
  ∀ H' p xs ts, Same H H' → H p = none → H' p = some (.lst xs) → IsTs H' xs ts → Things st ts → Q (.ref p) H'
theorem IsTs.snoc {H : Hp} {xs : List V} {ts : List Th} {x : V} {t : Th} (h : IsTs H xs ts) (hx : IsT H x t) : IsTs H (xs ++ [x]) (ts ++ [t]) := h.append (.cons hx .nil)
theorem things_turn {H : Hp} {D : Addr} {acc : List V} {ts : List Th} (e : H D = some (.lst acc)) (ys : List V) (h : IsTs H ys ts) : IsTs (upd H D (.lst ys)) ys ts := h.ext (Keeps.tups (Keeps.list e))
theorem fo_things (T : Tx K mg) : Fo P w K mg base CX0 1 (am K "Keeper" "things") (spThings K "Keeper" "by_seal") := by
  have S : FnScope ["self", "number"] ["self"] (defScope (inner (top 41) 0)) := ⟨rfl, rfl, rfl, by decide +kernel, rfl, by decide +kernel, by decide +kernel⟩
  refine T.d_Keeper_things.ok S (fun _ _ _ _ _ _ us hl => match us, hl with | [_], _ => rfl) (fun vs H Q E h => by obtain ⟨a, d, st, rfl, _⟩ := h; rfl) (fun cdv A outer s H vs Q E hr h => ?_)
  have hu := hu_of hr
  refine ⟨_, PSs.nox ((pss_one (ps_ret (pe_lc (own := [("number", 1)]) (g := gName 1) (tt := tYes) (te := tDGet (tFld K (tVar 0) "by_seal") (tVar 1)) rfl S.nd (pi_list (pe_callB (Ls.call_sortedAny rfl) (by rfl) T.n_sorted (by decide +kernel) (pa_cons (pe_fld (pv 0) rfl) pa_nil))) (blkOk_by (N := ["self", "number"]) (sc := defScope (inner (top 41) 0)) (by decide +kernel)) (fun _ _ _ _ _ => pg_name (i := 1) S.nd rfl (Or.inl rfl)) (fun _ _ _ _ _ => pts_nil) (fun _ _ _ _ _ => by exact (pe_dget hu (pe_fld (pv 0) rfl) (pv 1) (fun _ _ => rfl))))))), ?_⟩
  obtain ⟨a, d, st, rfl, ⟨⟨dx, fs, ha, hl⟩, kvs, hd, r⟩, gs, hz, k⟩ := h
  refine ⟨_, rfl, a, _, dx, fs, _, rfl, ha, T.c_Keeper, T.f_Keeper_by_seal, hl, d, kvs, st.map (·.1), rfl, Rd.of hd, r.keys, fun ys p perm pw hp => ⟨p, rfl, ⟨_, SqL.of upd_same⟩, fun D hD => ?_⟩⟩
  have hpD : p ≠ D := fun z => by rw [z, upd_same] at hD; cases hD
  have hD0 : H D = none := by rw [upd_ne (Ne.symm hpD)] at hD; exact hD
  have ylen : ys.length = st.length := by rw [perm.length_eq, List.length_map]
  refine lc_list (xs := ys.map V.int) (fun i H' => Same H H' ∧ H' p = some (.lst (ys.map V.int)) ∧ ∃ acc ts, H' D = some (.lst acc) ∧ IsTs H' acc ts ∧ ts.map some = (ys.take i).map (Store.get st)) ?_ ?_ ?_ ?_
  · exact ⟨same_put (same_put (Same.refl H) hp) hD0, by rw [upd_ne hpD]; exact upd_same, [], [], upd_same, .nil, rfl⟩
  · rintro i H1 hi ⟨sm, h1, _⟩
    exact SqL.of h1
  · rintro i x H1 hx ⟨sm, h1, acc, ts, hA, hts, et⟩
    rw [List.getElem?_map] at hx
    obtain ⟨n, hn, rfl⟩ := Option.map_eq_some_iff.mp hx
    have hin : n ∈ st.map (·.1) := perm.mem_iff.mp (List.mem_of_getElem? hn)
    obtain ⟨q, hq, rfl⟩ := List.mem_map.mp hin
    have hg : Store.get st q.1 = some q.2 := Store.mem_get gs.nd hq
    obtain ⟨x, hxv, hxT⟩ := r.some hg
    have g : DGet H1 d (.int q.1) (some x) := by rw [← hxv]; exact DGet.k (k := .inl q.1) (sm _ _ hd)
    have lt : acc.length = i := by
      have := congrArg List.length et
      rw [List.length_map, List.length_map, List.length_take] at this
      rw [hts.length]
      have : i < ys.length := (List.getElem?_eq_some_iff.mp hn).1
      omega
    refine ⟨rfl, _, rfl, a, _, dx, fs, _, rfl, sm _ _ ha, T.c_Keeper, T.f_Keeper_by_seal, hl, _, rfl, d, x, rfl, g, acc, hA, ?_, ?_⟩
    · have : i < ys.length := (List.getElem?_eq_some_iff.mp hn).1
      exact lim_line (show acc.length < lim by omega)
    · refine ⟨same_put sm hD0, by rw [upd_ne hpD]; exact h1, acc ++ [x], ts ++ [q.2], upd_same, things_turn hA _ (IsTs.snoc hts (hxT.same sm)), ?_⟩
      rw [take_more hn, List.map_append, List.map_append, et, List.map_cons, List.map_nil, List.map_cons, List.map_nil, hg]
  · rintro H1 ⟨sm, h1, acc, ts, hA, hts, et⟩
    refine k H1 D acc ts sm hD0 hA hts ⟨ys, perm, pw, ?_⟩
    rw [List.length_map, List.take_length] at et
    exact et
theorem fo_paper (T : Tx K mg) : Fo P w K mg base CX0 1 (am K "Reader" "paper") (spThings K "Reader" "noted") := by
  have S : FnScope ["self", "number"] ["self"] (defScope (inner (top 42) 3)) := ⟨rfl, rfl, rfl, by decide +kernel, rfl, by decide +kernel, by decide +kernel⟩
  refine T.d_Reader_paper.ok S (fun _ _ _ _ _ _ us hl => match us, hl with | [_], _ => rfl) (fun vs H Q E h => by obtain ⟨a, d, st, rfl, _⟩ := h; rfl) (fun cdv A outer s H vs Q E hr h => ?_)
  have hu := hu_of hr
  refine ⟨_, PSs.nox ((pss_one (ps_ret (pe_lc (own := [("number", 1)]) (g := gName 1) (tt := tYes) (te := tDGet (tFld K (tVar 0) "noted") (tVar 1)) rfl S.nd (pi_list (pe_callB (Ls.call_sortedAny rfl) (by rfl) T.n_sorted (by decide +kernel) (pa_cons (pe_fld (pv 0) rfl) pa_nil))) (blkOk_by (N := ["self", "number"]) (sc := defScope (inner (top 42) 3)) (by decide +kernel)) (fun _ _ _ _ _ => pg_name (i := 1) S.nd rfl (Or.inl rfl)) (fun _ _ _ _ _ => pts_nil) (fun _ _ _ _ _ => by exact (pe_dget hu (pe_fld (pv 0) rfl) (pv 1) (fun _ _ => rfl))))))), ?_⟩
  obtain ⟨a, d, st, rfl, ⟨⟨dx, fs, ha, hl⟩, kvs, hd, r⟩, gs, hz, k⟩ := h
  refine ⟨_, rfl, a, _, dx, fs, _, rfl, ha, T.c_Reader, T.f_Reader_noted, hl, d, kvs, st.map (·.1), rfl, Rd.of hd, r.keys, fun ys p perm pw hp => ⟨p, rfl, ⟨_, SqL.of upd_same⟩, fun D hD => ?_⟩⟩
  have hpD : p ≠ D := fun z => by rw [z, upd_same] at hD; cases hD
  have hD0 : H D = none := by rw [upd_ne (Ne.symm hpD)] at hD; exact hD
  have ylen : ys.length = st.length := by rw [perm.length_eq, List.length_map]
  refine lc_list (xs := ys.map V.int) (fun i H' => Same H H' ∧ H' p = some (.lst (ys.map V.int)) ∧ ∃ acc ts, H' D = some (.lst acc) ∧ IsTs H' acc ts ∧ ts.map some = (ys.take i).map (Store.get st)) ?_ ?_ ?_ ?_
  · exact ⟨same_put (same_put (Same.refl H) hp) hD0, by rw [upd_ne hpD]; exact upd_same, [], [], upd_same, .nil, rfl⟩
  · rintro i H1 hi ⟨sm, h1, _⟩
    exact SqL.of h1
  · rintro i x H1 hx ⟨sm, h1, acc, ts, hA, hts, et⟩
    rw [List.getElem?_map] at hx
    obtain ⟨n, hn, rfl⟩ := Option.map_eq_some_iff.mp hx
    have hin : n ∈ st.map (·.1) := perm.mem_iff.mp (List.mem_of_getElem? hn)
    obtain ⟨q, hq, rfl⟩ := List.mem_map.mp hin
    have hg : Store.get st q.1 = some q.2 := Store.mem_get gs.nd hq
    obtain ⟨x, hxv, hxT⟩ := r.some hg
    have g : DGet H1 d (.int q.1) (some x) := by rw [← hxv]; exact DGet.k (k := .inl q.1) (sm _ _ hd)
    have lt : acc.length = i := by
      have := congrArg List.length et
      rw [List.length_map, List.length_map, List.length_take] at this
      rw [hts.length]
      have : i < ys.length := (List.getElem?_eq_some_iff.mp hn).1
      omega
    refine ⟨rfl, _, rfl, a, _, dx, fs, _, rfl, sm _ _ ha, T.c_Reader, T.f_Reader_noted, hl, _, rfl, d, x, rfl, g, acc, hA, ?_, ?_⟩
    · have : i < ys.length := (List.getElem?_eq_some_iff.mp hn).1
      exact lim_line (show acc.length < lim by omega)
    · refine ⟨same_put sm hD0, by rw [upd_ne hpD]; exact h1, acc ++ [x], ts ++ [q.2], upd_same, things_turn hA _ (IsTs.snoc hts (hxT.same sm)), ?_⟩
      rw [take_more hn, List.map_append, List.map_append, et, List.map_cons, List.map_nil, List.map_cons, List.map_nil, hg]
  · rintro H1 ⟨sm, h1, acc, ts, hA, hts, et⟩
    refine k H1 D acc ts sm hD0 hA hts ⟨ys, perm, pw, ?_⟩
    rw [List.length_map, List.take_length] at et
    exact et

/-! ### Reader.__init__ -/
def spRinit (K : PySem.W.Frag) : Sp := fun vs H Q _ => ∃ a kv dx, vs = [.ref a, kv] ∧ H a = some (.ins (ad K "Reader") dx []) ∧
  ∀ H' d e, (∀ b o, H b = some o → b ≠ a → H' b = some o) → H' a = some (.ins (ad K "Reader") dx [("by_seal", .ref d), ("beneath", kv), ("noted", .ref e)]) → H' d = some (.dK []) → H' e = some (.dK []) → d ≠ e → H d = none → H e = none → Q .non H'
theorem fo_Rinit (T : Tx K mg) : Fo P w K mg base CX0 2 (am K "Reader" "__init__") (spRinit K) := by
  have S : FnScope ["self", "keeper"] ["self", "keeper"] (defScope (inner (top 42) 0)) := ⟨rfl, rfl, rfl, by decide +kernel, rfl, by decide +kernel, by decide +kernel⟩
  have F_Vinit : Fo P w K mg base CX0 1 (am K "Vault" "__init__") (spVinit K) := fo_Vinit T
  refine T.d_Reader_init.ok S (fun _ _ _ _ _ _ us hl => match us, hl with | [_, _], _ => rfl) (fun vs H Q E h => by obtain ⟨a, kv, dx, rfl, _⟩ := h; rfl) (fun cdv A outer s H vs Q E hr_Vinit h => ⟨_, PSs.nox ((pss_cons (ps_expr (pe_cl F_Vinit hr_Vinit (pe_glob (v := V.ref (ad K "Vault")) rfl T.b_Vault.g rfl) T.r_Vault.rd_ T.v_Vault_init pass0 (pa_cons (pv 0) pa_nil))) (pss_cons (ps_fld (pv 0) (pv 1) rfl) (pss_one (ps_fld (pv 0) pe_dnewK rfl))))), ?_⟩)
  obtain ⟨a, kv, dx, rfl, ha, k⟩ := h
  refine ⟨rfl, _, rfl, a, _, dx, rfl, .inr (.inr rfl), ha, fun d hd => ?_⟩
  have had : a ≠ d := ne_of_none ha hd
  refine ⟨_, rfl, _, rfl, a, _, dx, _, rfl, upd_same, T.c_Reader, T.f_Reader_beneath, by show 1 < 1000; decide, ?_⟩
  refine fun e he => ?_
  have hea : a ≠ e := fun z => by rw [z, upd_same] at he; cases he
  have hed : d ≠ e := fun z => by rw [z, upd_ne (Ne.symm hea), upd_ne (Ne.symm hea), upd_same] at he; cases he
  have he0 : H e = none := by rw [upd_ne (Ne.symm hea), upd_ne (Ne.symm hea), upd_ne (Ne.symm hed)] at he; exact he
  refine ⟨_, rfl, a, _, dx, _, rfl, by rw [upd_ne hea]; exact upd_same, T.c_Reader, T.f_Reader_noted, by show 2 < 1000; decide, ?_⟩
  refine k _ d e (fun b o q ne => ?_) upd_same ?_ ?_ hed hd he0
  · rw [upd_ne ne, upd_ne (ne_of_none q he0), upd_ne ne, upd_ne ne, upd_ne (ne_of_none q hd)]
    exact q
  · rw [upd_ne (Ne.symm had), upd_ne hed, upd_ne (Ne.symm had), upd_ne (Ne.symm had)]
    exact upd_same
  · rw [upd_ne (Ne.symm hea)]
    exact upd_same
/-! ### lay and thing, of any vault -/
def LayK (K : PySem.W.Frag) (H : Hp) (v : V) (M : List Addr) (s : VS) (t : Th) (Q : VK) (E : XK) : Prop := Ok 3 t ∧ s.size < lim ∧ (∀ s', s.lay t = .ok s' → ∀ H', Step M H H' → VaultAt K H' v s' M → Q (.int (sealOf t)) H') ∧ ∀ x, s.lay t = .error x → CxE K H E x t
theorem Does.layK {H : Hp} {v : V} {t : Th} {Q : VK} {E : XK} (h : Does K H v (.lay t .ret) (fun _ y n => y = .int n) Q E) : ∃ M s, VaultAt K H v s M ∧ LayK K H v M s t Q E := by
  obtain ⟨M, s, V0, w⟩ := h
  refine ⟨M, s, V0, ?_⟩
  cases e : s.lay t with
  | ok s' =>
    rw [wq_lay_ok e] at w
    exact ⟨w.2.1, w.1, fun s2 q H' st V1 => by rw [e] at q; cases q; exact w.2.2 H' _ st V1 rfl, fun x q => by rw [e] at q; cases q⟩
  | error x =>
    rw [wq_lay_error e] at w
    refine ⟨w.2.1, w.1, (fun s2 q => by rw [e] at q; cases q), fun x' q => ?_⟩
    rw [e] at q
    cases q
    exact fun H' dd xv tv sm hd hx ht => w.2.2 H' _ _ (Step.of_same sm) ⟨rfl, dd, xv, tv, rfl, hd, hx, ht⟩
def ThK (K : PySem.W.Frag) (H : Hp) (v : V) (M : List Addr) (s : VS) (n : Int) (Q : VK) (E : XK) : Prop := s.size < lim ∧ (∀ t s', s.thing n = some (t, s') → ∀ H' x, Step M H H' → VaultAt K H' v s' M → IsT H' x t → Q x H') ∧ (s.thing n = none → E (.ref (ad K "NoPaper")) none H)
theorem Does.thK {H : Hp} {v : V} {n : Int} {Q : VK} {E : XK} (h : Does K H v (.thing n .ret) (fun H' y t => IsT H' y t ∧ Ok 3 t) Q E) : ∃ M s, VaultAt K H v s M ∧ ThK K H v M s n Q E := by
  obtain ⟨M, s, V0, w⟩ := h
  refine ⟨M, s, V0, ?_⟩
  cases e : s.thing n with
  | some p =>
    rw [wq_thing_some (t := p.1) (s' := p.2) e] at w
    exact ⟨w.1, fun t s2 q H' x st V1 hx => by have ok := (Pv.thing_some q V0.good).2.2.2.2; rw [e] at q; cases q; exact w.2 H' x st V1 ⟨hx, ok⟩, fun q => by rw [e] at q; cases q⟩
  | none =>
    rw [wq_thing_none e] at w
    exact ⟨w.1, (fun t s2 q => by rw [e] at q; cases q), fun _ => w.2 H _ _ (Step.refl M H) ⟨rfl, rfl⟩⟩
def spLayR (K : PySem.W.Frag) : Sp := fun vs H Q E => ∃ v x t M k o m, vs = [v, x] ∧ VaultAt K H v (.reader k o m) M ∧ IsT H x t ∧ LayK K H v M (.reader k o m) t Q E
def spThR (K : PySem.W.Frag) : Sp := fun vs H Q E => ∃ v n M k o m, vs = [v, .int n] ∧ VaultAt K H v (.reader k o m) M ∧ ThK K H v M (.reader k o m) n Q E
def spLayB (K : PySem.W.Frag) : Sp := fun vs H Q E => ∃ v x t M st, vs = [v, x] ∧ VaultAt K H v (.base st) M ∧ IsT H x t ∧ LayK K H v M (.base st) t Q E
def spThB (K : PySem.W.Frag) : Sp := fun vs H Q E => ∃ v n M st, vs = [v, .int n] ∧ VaultAt K H v (.base st) M ∧ ThK K H v M (.base st) n Q E
theorem VaultAt.vd {H : Hp} {v : V} {st : Store} {M : List Addr} (h : VaultAt K H v (.base st) M) : ∃ a d, ∃ C : Str, ∃ dx, v = .ref a ∧ M = [d] ∧ Vd K H a d st ∧ (C = "Keeper" ∨ C = "Witness") ∧ H a = some (.ins (ad K C) dx [("by_seal", .ref d)]) := by
  cases h with
  | @base C a dx d _ hC ha hd hg =>
    refine ⟨a, d, C, dx, rfl, rfl, ⟨⟨ad K C, dx, _, ?_, ha, rfl⟩, hd⟩, hC, ha⟩
    rcases hC with rfl | rfl
    · exact .inl rfl
    · exact .inr (.inl rfl)
theorem fo_layB (T : Tx K mg) : Fo P w K mg base (L2.CX P w) 7 (am K "Vault" "lay") (spLayB K) := (fo_Vlay T).imp fun vs H Q E h => by
  obtain ⟨v, x, t, M, st, rfl, V0, hx, ok, hz, k, kx⟩ := h
  have gs := V0.good
  obtain ⟨a, d, C, dx, rfl, rfl, V1, hC, ha⟩ := V0.vd
  refine ⟨a, x, t, d, st, rfl, V1, hz, gs, hx, ok, fun y hy => ?_, fun hn H' s1 d1 => ?_⟩
  · exact kx y (by unfold VS.lay; simp only; rw [hy])
  · have gs' : st.Good := gs
    have ha' : H' a = some (.ins (ad K C) dx [("by_seal", .ref d)]) := s1 a _ ha (by
      rw [List.mem_singleton]
      intro z
      obtain ⟨kvs, q, _⟩ := V1.dict
      rw [z, q] at ha
      cases ha)
    exact k (.base (st.put (sealOf t) t)) (by unfold VS.lay; simp only; rw [hn]) H' s1 (.base hC ha' d1 (gs'.put ok))
theorem fo_thB (T : Tx K mg) : Fo P w K mg base (L2.CX P w) 1 (am K "Vault" "thing") (spThB K) := (fo_Vthing T).imp fun vs H Q E h => by
  obtain ⟨v, n, M, st, rfl, V0, hz, k, kx⟩ := h
  have V2 := V0
  obtain ⟨a, d, C, dx, rfl, rfl, V1, hC, ha⟩ := V0.vd
  refine ⟨a, n, d, st, rfl, V1, fun t x ht hx => k t (.base st) (by unfold VS.thing; simp only; rw [ht]) H x (Step.refl _ _) V2 hx, fun hn => kx (by unfold VS.thing; simp only; rw [hn])⟩
end Wk
set_option Elab.async false
set_option linter.all false
set_option maxRecDepth 100000
set_option maxHeartbeats 4000000
/-! Readers, witnesses; calls of a vault's methods. -/
namespace Wk
open PySem PySem.Spec PyProof.Rows L2 Pv Ph
variable {P : Program} {w : World} {K : PySem.W.Frag} {mg : Str → Option Value} {base : Heap}
theorem DictS.step {H H' : Hp} {d kd : Addr} {st u : Store} (h : DictS H kd st) (hd : DictS H d u) (s : Step [d] H H') (ne : d ≠ kd) : DictS H' kd st := by
  obtain ⟨kvs, e, r⟩ := h
  obtain ⟨kv2, e2, _⟩ := hd
  have tu : Tups H H' := s.tups fun b hb => by rw [List.mem_singleton.mp hb]; exact ⟨_, e2⟩
  exact ⟨kvs, s kd _ e (by rw [List.mem_singleton]; exact fun z => ne z.symm), r.ext tu⟩
theorem ins_step {H H' : Hp} {d a C dx : Addr} {fs : List (Str × V)} {u : Store} (h : H a = some (.ins C dx fs)) (hd : DictS H d u) (s : Step [d] H H') : H' a = some (.ins C dx fs) := by
  obtain ⟨kv2, e2, _⟩ := hd
  exact s a _ h (by
    rw [List.mem_singleton]
    intro z
    rw [z, e2] at h
    cases h)
/-- where a reader stands -/
structure RdAt (K : PySem.W.Frag) (H : Hp) (a dx d e kp kdx kd : Addr) (k o m : Store) : Prop where
  ha : H a = some (.ins (ad K "Reader") dx [("by_seal", .ref d), ("beneath", .ref kp), ("noted", .ref e)])
  hkp : H kp = some (.ins (ad K "Keeper") kdx [("by_seal", .ref kd)])
  hk : DictS H kd k
  ho : DictS H d o
  hm : DictS H e m
  ne1 : d ≠ kd
  ne2 : e ≠ kd
  ne3 : d ≠ e
  gk : k.Good
  go : o.Good
  gm : m.Good
theorem RdAt.at {H : Hp} {a dx d e kp kdx kd : Addr} {k o m : Store} (r : RdAt K H a dx d e kp kdx kd k o m) : VaultAt K H (.ref a) (.reader k o m) [d, e] := .reader r.ha r.hkp r.hk r.ho r.hm r.ne1 r.ne2 r.ne3 r.gk r.go r.gm
theorem VaultAt.rd {H : Hp} {v : V} {k o m : Store} {M : List Addr} (h : VaultAt K H v (.reader k o m) M) : ∃ a dx d e kp kdx kd, v = .ref a ∧ M = [d, e] ∧ RdAt K H a dx d e kp kdx kd k o m := by
  cases h with
  | reader ha hkp hk ho hm ne1 ne2 ne3 gk go gm => exact ⟨_, _, _, _, _, _, _, rfl, rfl, ha, hkp, hk, ho, hm, ne1, ne2, ne3, gk, go, gm⟩
theorem RdAt.own {H H' : Hp} {a dx d e kp kdx kd : Addr} {k o m o' : Store} (r : RdAt K H a dx d e kp kdx kd k o m) (s : Step [d] H H') (h : DictS H' d o') (g : o'.Good) : RdAt K H' a dx d e kp kdx kd k o' m :=
  ⟨ins_step r.ha r.ho s, ins_step r.hkp r.ho s, r.hk.step r.ho s r.ne1, h, r.hm.step r.ho s r.ne3, r.ne1, r.ne2, r.ne3, r.gk, g, r.gm⟩
theorem RdAt.note {H H' : Hp} {a dx d e kp kdx kd : Addr} {k o m m' : Store} (r : RdAt K H a dx d e kp kdx kd k o m) (s : Step [e] H H') (h : DictS H' e m') (g : m'.Good) : RdAt K H' a dx d e kp kdx kd k o m' :=
  ⟨ins_step r.ha r.hm s, ins_step r.hkp r.hm s, r.hk.step r.hm s r.ne2, r.ho.step r.hm s (Ne.symm r.ne3), h, r.ne1, r.ne2, r.ne3, r.gk, r.go, g⟩
theorem RdAt.same {H H' : Hp} {a dx d e kp kdx kd : Addr} {k o m : Store} (r : RdAt K H a dx d e kp kdx kd k o m) (s : Same H H') : RdAt K H' a dx d e kp kdx kd k o m :=
  ⟨s _ _ r.ha, s _ _ r.hkp, r.hk.keep (Keeps.of_same s), r.ho.keep (Keeps.of_same s), r.hm.keep (Keeps.of_same s), r.ne1, r.ne2, r.ne3, r.gk, r.go, r.gm⟩
theorem RdAt.vk {H : Hp} {a dx d e kp kdx kd : Addr} {k o m : Store} (r : RdAt K H a dx d e kp kdx kd k o m) : Vd K H kp kd k := ⟨⟨_, _, _, .inl rfl, r.hkp, rfl⟩, r.hk⟩
theorem RdAt.vo {H : Hp} {a dx d e kp kdx kd : Addr} {k o m : Store} (r : RdAt K H a dx d e kp kdx kd k o m) : Vd K H a d o := ⟨⟨_, _, _, .inr (.inr rfl), r.ha, rfl⟩, r.ho⟩
theorem fo_Rlay (T : Tx K mg) : Fo P w K mg base (L2.CX P w) 8 (am K "Reader" "lay") (spLayR K) := by
  have S : FnScope ["self", "new", "number"] ["self", "new"] (defScope (inner (top 42) 1)) := ⟨rfl, rfl, rfl, by decide +kernel, rfl, by decide +kernel, by decide +kernel⟩
  refine T.d_Reader_lay.ok S (fun _ _ _ _ _ _ us hl => match us, hl with | [_, _], _ => rfl) (fun vs H Q E h => by obtain ⟨v, x, t, M, k, o, m, rfl, _⟩ := h; rfl) (fun cdv A outer s H vs Q E hr h => ?_)
  have hu := hu_of hr
  have hu6 := hr.units
  have hr_seal : Room 6 _ := hr.mono (by decide)
  have hr_Keeper_has : Room 1 _ := hr.mono (by decide)
  have hr_Keeper_thing : Room 1 _ := hr.mono (by decide)
  have hr_Vlay := hr
  have hr1 : Room 2 _ := hr.mono (by decide)
  have F_seal : Fo P w K mg base CX0 6 (ad K "seal") spSeal := fo_seal T
  have F_Keeper_has : Fo P w K mg base CX0 1 (am K "Vault" "has") (spVhas K) := fo_Vhas T
  have F_Keeper_thing : Fo P w K mg base (L2.CX P w) 1 (am K "Vault" "thing") (spVthing K) := fo_Vthing T
  have F_Vlay : Fo P w K mg base (L2.CX P w) 7 (am K "Vault" "lay") (spVlay K) := fo_Vlay T
  obtain ⟨⟨fdC, psC, F1, b1⟩, _⟩ := fo_Clash (P := P) (w := w) (base := base) T
  have OX := oexC T
  refine ⟨_, (pss_cons (ps_set (i := 2) S.nd rfl (Or.inl rfl) (pe_fn F_seal hr_seal rfl T.b_seal.g pass0 (pa_cons (pv 1) pa_nil))) (pss_cons (ps_if (PW.pt (pw_and (pt_val (pe_mt F_Keeper_has hr_Keeper_has (pe_fld (pv 0) rfl) T.c_Keeper T.m_Keeper_has.meth pass0 (pa_cons (pv 2) pa_nil))) (pw_and1 (pt_cmpR (op_neT hu6) (pe_mt F_Keeper_thing hr_Keeper_thing (pe_fld (pv 0) rfl) T.c_Keeper T.m_Keeper_thing.meth passX (pa_cons (pv 2) pa_nil)) (pv 1) (nomark _))))) (pss_one (ps_raise rfl takeX (pmk_oex OX T.o_in T.o_ty F1 hr1 b1 .nil pass0 rfl T.b_Clash.g (pa_cons (pe_mt F_Keeper_thing hr_Keeper_thing (pe_fld (pv 0) rfl) T.c_Keeper T.m_Keeper_thing.meth passX (pa_cons (pv 2) pa_nil)) (pa_cons (pv 1) pa_nil))))) pss_nil) (pss_one (ps_ret (pe_cl F_Vlay hr_Vlay (pe_glob (v := V.ref (ad K "Vault")) rfl T.b_Vault.g rfl) T.r_Vault.rd_ T.v_Vault_lay passX (pa_cons (pv 0) (pa_cons (pv 1) pa_nil))))))), ?_⟩
  obtain ⟨v, x, t, M, k, o, m, rfl, V0, hx, ok, hz, kq, kx⟩ := h
  obtain ⟨a, dx, d, e, kp, kdx, kd, rfl, rfl, r0⟩ := V0.rd
  have hz1 : o.length + m.length < lim := hz
  refine ⟨_, rfl, x, t, rfl, hx, ok, fun H1 sm => ?_⟩
  have r := r0.same sm
  have hx1 := hx.same sm
  have last : k.laid t = none → ∀ (Q' : VK), Q' = Q → [V.ref a, x].length = 2 → spVlay K [V.ref a, x] H1 Q' E := fun hk Q' eQ _ => by
    subst eQ
    refine ⟨a, x, t, d, o, rfl, r.vo, by omega, r.go, hx1, ok, fun y hy => ?_, fun hn H' s1 d1 => ?_⟩
    · exact (kx y (by unfold VS.lay; simp only; rw [hk]; simp only; rw [hy])).same sm
    · exact kq (.reader k (o.put (sealOf t) t) m) (by unfold VS.lay; simp only; rw [hk]; simp only; rw [hn]) H' ((Step.of_same sm).trans (s1.mono fun b hb => by rw [List.mem_singleton.mp hb]; exact List.mem_cons_self))
        (r.own s1 d1 (r.go.put ok)).at
  refine ⟨_, rfl, a, _, dx, _, _, rfl, r.ha, T.c_Reader, T.f_Reader_beneath, rfl, kp, kdx, _, rfl, r.hkp, rfl, _, rfl, kp, sealOf t, kd, k, rfl, r.vk, _, rfl, ite2 (fun c => ?_) (fun c => ?_)⟩
  · obtain ⟨y, hy⟩ := Option.isSome_iff_exists.mp c
    refine ⟨_, rfl, a, _, dx, _, _, rfl, r.ha, T.c_Reader, T.f_Reader_beneath, rfl, kp, kdx, _, rfl, r.hkp, rfl, _, rfl, kp, sealOf t, kd, k, rfl, r.vk, fun t' xv ht hxv => ?_, fun hn => by rw [hn] at hy; cases hy⟩
    rw [hy] at ht
    cases ht
    refine ⟨_, rfl, y, t, hxv, hx1, ok_depth (Store.Good.get r.gk hy).1 (by decide), _, rfl, ite2 (fun c2 => ?_) (fun c2 => ?_)⟩
    · have ne : y ≠ t := fun e => by rw [e] at c2; simp at c2
      refine ⟨_, rfl, a, _, dx, _, _, rfl, r.ha, T.c_Reader, T.f_Reader_beneath, rfl, kp, kdx, _, rfl, r.hkp, rfl, _, rfl, kp, sealOf t, kd, k, rfl, r.vk, fun t2 xv2 ht2 hxv2 => ?_, fun hn => by rw [hn] at hy; cases hy⟩
      rw [hy] at ht2
      cases ht2
      refine ⟨_, rfl, ?_⟩
      exact clash_raise hxv2 hx1 ((kx y (by unfold VS.lay Store.laid; simp only; rw [hy]; simp only; rw [if_neg ne])).same sm)
    · have e2 : y = t := by
        by_cases z : y = t
        · exact z
        · exfalso; apply c2; simp [z]
      have hk : k.laid t = none := by unfold Store.laid; rw [hy]; exact if_pos e2
      exact ⟨rfl, _, rfl, _, rfl, last hk _ rfl rfl⟩
  · have hn : Store.get k (sealOf t) = none := by
      cases q : Store.get k (sealOf t) with
      | none => rfl
      | some y => rw [q] at c; exact absurd rfl c
    have hk : k.laid t = none := by unfold Store.laid; rw [hn]
    exact iteF ⟨rfl, _, rfl, _, rfl, last hk _ rfl rfl⟩
theorem fo_Rthing (T : Tx K mg) : Fo P w K mg base (L2.CX P w) 2 (am K "Reader" "thing") (spThR K) := by
  have S : FnScope ["self", "number", "found"] ["self", "number"] (defScope (inner (top 42) 2)) := ⟨rfl, rfl, rfl, by decide +kernel, rfl, by decide +kernel, by decide +kernel⟩
  refine T.d_Reader_thing.ok S (fun _ _ _ _ _ _ us hl => match us, hl with | [_, _], _ => rfl) (fun vs H Q E h => by obtain ⟨v, n, M, k, o, m, rfl, _⟩ := h; rfl) (fun cdv A outer s H vs Q E hr h => ?_)
  have hu := hu_of hr
  have hr_Keeper_has := hr
  have hr_Keeper_thing := hr
  have F_Keeper_has : Fo P w K mg base CX0 1 (am K "Vault" "has") (spVhas K) := fo_Vhas T
  have F_Keeper_thing : Fo P w K mg base (L2.CX P w) 1 (am K "Vault" "thing") (spVthing K) := fo_Vthing T
  refine ⟨_, (pss_cons (ps_if (pt_val (pe_mt F_Keeper_has hr_Keeper_has (pv 0) T.c_Reader T.m_Reader_has.meth pass0 (pa_cons (pv 1) pa_nil))) (pss_one (ps_ret (pe_cl F_Keeper_thing hr_Keeper_thing (pe_glob (v := V.ref (ad K "Vault")) rfl T.b_Vault.g rfl) T.r_Vault.rd_ T.v_Vault_thing passX (pa_cons (pv 0) (pa_cons (pv 1) pa_nil))))) pss_nil) (pss_cons (ps_set (i := 2) S.nd rfl (Or.inl rfl) (pe_mt F_Keeper_thing hr_Keeper_thing (pe_fld (pv 0) rfl) T.c_Keeper T.m_Keeper_thing.meth passX (pa_cons (pv 1) pa_nil))) (pss_cons (ps_dput hu (pe_fld (pv 0) rfl) (pv 1) (pv 2) rfl) (pss_one (ps_ret (pv 2)))))), ?_⟩
  obtain ⟨v, n, M, k, o, m, rfl, V0, hz, kq, kx⟩ := h
  obtain ⟨a, dx, d, e, kp, kdx, kd, rfl, rfl, r⟩ := V0.rd
  have hz1 : o.length + m.length < lim := hz
  refine ⟨_, rfl, a, dx, _, rfl, r.ha, rfl, _, rfl, a, n, d, o, rfl, r.vo, _, rfl, ite2 (fun c => ?_) (fun c => ?_)⟩
  · obtain ⟨t, ht⟩ := Option.isSome_iff_exists.mp c
    refine ⟨rfl, _, rfl, _, rfl, a, n, d, o, rfl, r.vo, fun t' x ht' hx => ?_, fun hn => by rw [hn] at ht; cases ht⟩
    exact kq t' (.reader k o m) (by unfold VS.thing; simp only; rw [ht']) H x (Step.refl _ _) r.at hx
  · have hn : Store.get o n = none := by
      cases q : Store.get o n with
      | none => rfl
      | some y => rw [q] at c; exact absurd rfl c
    refine ⟨_, rfl, a, _, dx, _, _, rfl, r.ha, T.c_Reader, T.f_Reader_beneath, rfl, kp, kdx, _, rfl, r.hkp, rfl, _, rfl, kp, n, kd, k, rfl, r.vk, fun t x ht hx => ?_, fun hk => kx (by unfold VS.thing; simp only; rw [hn]; simp only; rw [hk])⟩
    obtain ⟨H2, dp, s2, d2, _⟩ := r.hm.put (n := n) hx (show m.length < lim by omega)
    have r2 := r.note s2 d2 (by
      have := (Store.Good.get r.gk ht)
      rw [← this.2]
      exact r.gm.put this.1)
    have hx2 : IsT H2 x t := hx.ext (s2.tups fun b hb => by
      obtain ⟨kvs, q, _⟩ := r.hm
      rw [List.mem_singleton.mp hb]
      exact ⟨kvs, q⟩)
    refine ⟨_, rfl, _, rfl, a, _, dx, _, _, rfl, r.ha, T.c_Reader, T.f_Reader_noted, rfl, _, rfl, e, H2, rfl, dp, _, rfl, ?_⟩
    exact kq t (.reader k o (m.put n t)) (by unfold VS.thing; simp only; rw [hn]; simp only; rw [ht]) H2 x (s2.mono fun b hb => by rw [List.mem_singleton.mp hb]; exact List.mem_cons_of_mem _ List.mem_cons_self) r2.at hx2
end Wk
set_option Elab.async false
set_option linter.all false
set_option maxRecDepth 100000
set_option maxHeartbeats 4000000
/-! Calls of a vault's methods; witnesses. -/
namespace Wk
open PySem PySem.Spec PyProof.Rows L2 Pv Ph
/-- the promise of the class that s has -/
def spLayS (K : PySem.W.Frag) : VS → Sp
  | .base _ => spLayB K
  | .reader _ _ _ => spLayR K
def spThS (K : PySem.W.Frag) : VS → Sp
  | .base _ => spThB K
  | .reader _ _ _ => spThR K
def tVl (K : PySem.W.Frag) (E : XK) (ta : TE) (t : TA) : TE := fun σ H Q => ∃ v M s, (∀ Q' : VK, Q' v H → ta σ H Q') ∧ VaultAt K H v s M ∧ t σ H fun vs H2 => spLayS K s (v :: vs) H2 Q E
def tVt (K : PySem.W.Frag) (E : XK) (ta : TE) (t : TA) : TE := fun σ H Q => ∃ v M s, (∀ Q' : VK, Q' v H → ta σ H Q') ∧ VaultAt K H v s M ∧ t σ H fun vs H2 => spThS K s (v :: vs) H2 Q E
section
variable {X : Cx} {E : XK} {o e : Expr} {es : List Expr} {pos apos : Pos} {ta : TE} {t : TA}
theorem pe_vlay {pl : Sem Bool} (T : Tx X.K X.mg) (hr : Room 8 X.A) (hx : Passes (L2.CX X.prog X.w) X E) (he : PE X o ta) (ha : PA X (e :: es) t)
    (hst : starEach (e :: es) X.env = (false, eval e X.env) :: starEach es X.env := by rfl) (hpl : (backTo pos (starEach es X.env)).any (·.1) = false := by rfl)
    (ht : eval (.Call (.Attribute o "lay" apos) (e :: es) [] pos) X.env = (do
      let ov ← eval o X.env
      standAt apos.atName
      let (f, first) ← holding [ov] (getMethod ov "lay" pl)
      callWith pos f first (backTo pos (starEach (e :: es) X.env)) (backToKw pos (keywordEach [] X.env))) := by rfl) :
    PE X (.Call (.Attribute o "lay" apos) (e :: es) [] pos) (tVl X.K E ta t) := by
  refine ⟨fun pins s σ H Q I h => ?_⟩
  obtain ⟨v, M, st, h1, V0, q⟩ := h
  cases V0 with
  | @base C a dx d sto hC h2 hd hg =>
    rcases hC with rfl | rfl
    · exact (pe_mt (fo_layB T) (hr.mono (by decide)) he T.c_Keeper T.m_Keeper_lay.meth hx ha hst hpl ht).run pins s σ H Q I (h1 _ ⟨a, dx, _, rfl, h2, rfl, q⟩)
    · exact (pe_mt (fo_layB T) (hr.mono (by decide)) he T.c_Witness T.m_Witness_lay.meth hx ha hst hpl ht).run pins s σ H Q I (h1 _ ⟨a, dx, _, rfl, h2, rfl, q⟩)
  | reader h2 hkp hk ho hm ne1 ne2 ne3 gk go gm =>
    exact (pe_mt (fo_Rlay T) hr he T.c_Reader T.m_Reader_lay.meth hx ha hst hpl ht).run pins s σ H Q I (h1 _ ⟨_, _, _, rfl, h2, rfl, q⟩)
theorem pe_vthing {pl : Sem Bool} (T : Tx X.K X.mg) (hr : Room 2 X.A) (hx : Passes (L2.CX X.prog X.w) X E) (he : PE X o ta) (ha : PA X (e :: es) t)
    (hst : starEach (e :: es) X.env = (false, eval e X.env) :: starEach es X.env := by rfl) (hpl : (backTo pos (starEach es X.env)).any (·.1) = false := by rfl)
    (ht : eval (.Call (.Attribute o "thing" apos) (e :: es) [] pos) X.env = (do
      let ov ← eval o X.env
      standAt apos.atName
      let (f, first) ← holding [ov] (getMethod ov "thing" pl)
      callWith pos f first (backTo pos (starEach (e :: es) X.env)) (backToKw pos (keywordEach [] X.env))) := by rfl) :
    PE X (.Call (.Attribute o "thing" apos) (e :: es) [] pos) (tVt X.K E ta t) := by
  refine ⟨fun pins s σ H Q I h => ?_⟩
  obtain ⟨v, M, st, h1, V0, q⟩ := h
  cases V0 with
  | @base C a dx d sto hC h2 hd hg =>
    rcases hC with rfl | rfl
    · exact (pe_mt (fo_thB T) (hr.mono (by decide)) he T.c_Keeper T.m_Keeper_thing.meth hx ha hst hpl ht).run pins s σ H Q I (h1 _ ⟨a, dx, _, rfl, h2, rfl, q⟩)
    · exact (pe_mt (fo_thB T) (hr.mono (by decide)) he T.c_Witness T.m_Witness_thing.meth hx ha hst hpl ht).run pins s σ H Q I (h1 _ ⟨a, dx, _, rfl, h2, rfl, q⟩)
  | reader h2 hkp hk ho hm ne1 ne2 ne3 gk go gm =>
    exact (pe_mt (fo_Rthing T) hr he T.c_Reader T.m_Reader_thing.meth hx ha hst hpl ht).run pins s σ H Q I (h1 _ ⟨_, _, _, rfl, h2, rfl, q⟩)
end
variable {P : Program} {w : World} {K : PySem.W.Frag} {mg : Str → Option Value} {base : Heap}
def InsK (H H2 : Hp) : Prop := ∀ b C dx fs, H b = some (.ins C dx fs) → H2 b = some (.ins C dx fs)
theorem Keeps.insk {H H2 : Hp} (k : Keeps H H2) : InsK H H2 := fun b C dx fs e => k _ _ e fun z => z
theorem Same.insk {H H2 : Hp} (k : Same H H2) : InsK H H2 := fun b C dx fs e => k _ _ e
theorem kind_eq {H H2 : Hp} {v : V} {s s2 : VS} {M M2 : List Addr} (h : VaultAt K H v s M) (h2 : VaultAt K H2 v s2 M2) (k : InsK H H2) : (∃ a b, s = .base a ∧ s2 = .base b) ∨ ∃ a b c d e f, s = .reader a b c ∧ s2 = .reader d e f := by
  cases h with
  | base hC ha hd hg =>
    have q := k _ _ _ _ ha
    cases h2 with
    | base => exact .inl ⟨_, _, rfl, rfl⟩
    | reader ha2 =>
      rw [q] at ha2
      injection Option.some.inj ha2 with e1 e2 e3
      cases e3
  | reader ha =>
    have q := k _ _ _ _ ha
    cases h2 with
    | base _ ha2 =>
      rw [q] at ha2
      injection Option.some.inj ha2 with e1 e2 e3
      cases e3
    | reader => exact .inr ⟨_, _, _, _, _, _, rfl, rfl⟩
section
variable {H0 H H2 : Hp} {M Mx : List Addr} {E : XK} {v x : V} {s : VS} {α : Type} {t : Th} {n : Int} {Q : VK} {Qf : α → VS → Prop}
theorem layS (V0 : VaultAt K H v s Mx) (hk : InsK H H2) (hx : IsT H2 x t) (d : Does K H2 v (.lay t .ret) (fun _ y n => y = .int n) Q E) : spLayS K s [v, x] H2 Q E := by
  obtain ⟨M2, s2, V2, q⟩ := d.layK
  rcases kind_eq V0 V2 hk with ⟨a, b, rfl, rfl⟩ | ⟨a, b, c, d, e, f, rfl, rfl⟩
  · exact ⟨v, x, t, M2, b, rfl, V2, hx, q⟩
  · exact ⟨v, x, t, M2, d, e, f, rfl, V2, hx, q⟩
theorem thS (V0 : VaultAt K H v s Mx) (hk : InsK H H2) (d : Does K H2 v (.thing n .ret) (fun H' y t => IsT H' y t ∧ Ok 3 t) Q E) : spThS K s [v, .int n] H2 Q E := by
  obtain ⟨M2, s2, V2, q⟩ := d.thK
  rcases kind_eq V0 V2 hk with ⟨a, b, rfl, rfl⟩ | ⟨a, b, c, d, e, f, rfl, rfl⟩
  · exact ⟨v, n, M2, b, rfl, V2, q⟩
  · exact ⟨v, n, M2, d, e, f, rfl, V2, q⟩
theorem Run.lay {k : Int → Pg α} (r : Run K H0 M E v (.lay t k) Qf H2) (V0 : VaultAt K H v s Mx) (hk : InsK H H2) (hx : IsT H2 x t) (q : ∀ n H1, Step M H2 H1 → Run K H0 M E v (k n) Qf H1 → Q (.int n) H1) : spLayS K s [v, x] H2 Q E :=
  layS V0 hk hx (Run.call (p := .lay t .ret) (f := k) r fun n H1 y st r1 e => by subst e; exact q n H1 st r1)
theorem Run.thing {k : Th → Pg α} (r : Run K H0 M E v (.thing n k) Qf H2) (V0 : VaultAt K H v s Mx) (hk : InsK H H2) (q : ∀ t H1 x, Step M H2 H1 → Run K H0 M E v (k t) Qf H1 → IsT H1 x t ∧ Ok 3 t → Q x H1) : spThS K s [v, .int n] H2 Q E :=
  thS V0 hk (Run.call (p := .thing n .ret) (f := k) r fun t H1 y st r1 e => q t H1 y st r1 e)
theorem Run.vault {p : Pg α} (r : Run K H0 M E v p Qf H) : ∃ s, VaultAt K H v s M := by
  obtain ⟨s, _, V0, _⟩ := r
  exact ⟨s, V0⟩
end
/-! ### Witness.__init__ -/
def But (a : Addr) (H H' : Hp) : Prop := ∀ b o, H b = some o → b ≠ a → H' b = some o
def spWinit (K : PySem.W.Frag) : Sp := fun vs H Q E => ∃ a p dx xs ts, vs = [.ref a, .ref p] ∧ H a = some (.ins (ad K "Witness") dx []) ∧ H p = some (.lst xs) ∧ IsTs H xs ts ∧
  wq (layAll ts) (.base []) (fun _ s' => ∀ H' d, But a H H' → H d = none → VaultAt K H' (.ref a) s' [d] → Q .non H') (fun e => ∀ H' cls dd, But a H H' → ExR K H' e cls dd → E cls dd H')
theorem fo_Winit (T : Tx K mg) : Fo P w K mg base (L2.CX P w) 9 (am K "Witness" "__init__") (spWinit K) := by
  have S : FnScope ["self", "some", "new"] ["self", "some"] (defScope (inner (top 43) 0)) := ⟨rfl, rfl, rfl, by decide +kernel, rfl, by decide +kernel, by decide +kernel⟩
  refine T.d_Witness_init.ok S (fun _ _ _ _ _ _ us hl => match us, hl with | [_, _], _ => rfl) (fun vs H Q E h => by obtain ⟨a, p, dx, xs, ts, rfl, _⟩ := h; rfl) (fun cdv A outer s H vs Q E hr8 h => ?_)
  have hr_Vinit : Room 1 _ := hr8.mono (by decide)
  have hr_is_thing := hr8
  have F_Vinit : Fo P w K mg base CX0 1 (am K "Vault" "__init__") (spVinit K) := fo_Vinit T
  have F_is_thing : Fo P w K mg base CX0 8 (ad K "is_thing") spIsThing := fo_is_thing T
  refine ⟨_, (pss_cons (ps_expr (pe_cl F_Vinit hr_Vinit (pe_glob (v := V.ref (ad K "Vault")) rfl T.b_Vault.g rfl) T.r_Vault.rd_ T.v_Vault_init pass0 (pa_cons (pv 0) pa_nil))) (pss_one (ps_for ownX rfl (pi_list (pv 1)) (pg_name (i := 2) S.nd rfl (Or.inl rfl)) (pss_cons (ps_if (pt_not (pt_val (pe_fn F_is_thing hr_is_thing rfl T.b_is_thing.g pass0 (pa_cons (pv 2) pa_nil)))) (pss_one ps_never) pss_nil) (pss_one (ps_expr (pe_vlay T hr8 passX (pv 0) (pa_cons (pv 2) pa_nil)))))))), ?_⟩
  obtain ⟨a, p, dx, xs, ts, rfl, ha, hp, hts, w0⟩ := h
  refine ⟨rfl, _, rfl, a, _, dx, rfl, .inr (.inl rfl), ha, fun d hd => ?_⟩
  have hap : p ≠ a := ne_of hp ha (fun z => nomatch z)
  have hpd : p ≠ d := ne_of_none hp hd
  have had : a ≠ d := ne_of_none ha hd
  have bt : But a H (upd (upd H d (.dK [])) a (.ins (ad K "Witness") dx [("by_seal", .ref d)])) := fun b o e n => by
    rw [upd_ne n, upd_ne (ne_of_none e hd)]
    exact e
  have tu : ∀ {H' : Hp}, Step [d] (upd (upd H d (.dK [])) a (.ins (ad K "Witness") dx [("by_seal", .ref d)])) H' → But a H H' := fun st b o e n => st b o (bt b o e n) (by
    rw [List.mem_singleton]
    exact ne_of_none e hd)
  have V0 : VaultAt K (upd (upd H d (.dK [])) a (.ins (ad K "Witness") dx [("by_seal", .ref d)])) (.ref a) (.base []) [d] := by
    refine .base (.inr rfl) upd_same ⟨[], ?_, .nil⟩ .nil
    rw [upd_ne (Ne.symm had)]
    exact upd_same
  have tups : ∀ {H' : Hp}, But a H H' → Tups H H' := fun b c xs e => b c _ e (ne_of e ha (fun z => nomatch z))
  generalize hH1 : upd (upd H d (.dK [])) a (.ins (ad K "Witness") dx [("by_seal", .ref d)]) = H1 at bt tu V0 ⊢
  have r0 : Run K H1 [d] E (.ref a) (layAll ts) (fun _ s' => ∀ H' d, But a H H' → H d = none → VaultAt K H' (.ref a) s' [d] → Q .non H') H1 :=
    ⟨.base [], Step.refl _ _, V0, wq_mono _ _ (fun _ _ x => x) (fun e x H' cls dd st ex => x H' cls dd (tu st) ex) w0⟩
  refine ⟨_, rfl, p, rfl, ⟨xs, SqL.of (bt _ _ hp hap)⟩, for_list (xs := xs) (fun i σ H' => ∃ v2, σ = [some (.ref a), some (.ref p), v2] ∧ Run K H1 [d] E (.ref a) (layAll (ts.drop i)) (fun _ s' => ∀ H' d, But a H H' → H d = none → VaultAt K H' (.ref a) s' [d] → Q .non H') H') ?_ ?_ ?_ ?_⟩
  · exact ⟨_, rfl, r0⟩
  · rintro i σ H2 hi ⟨v2, rfl, r⟩
    exact SqL.of (tu r.step _ _ hp hap)
  · rintro i x σ H2 hx ⟨v2, rfl, r⟩
    obtain ⟨t, ht, hT⟩ := hts.get hx
    rw [drop_at ht] at r
    have hT2 := hT.ext (tups (tu r.step))
    have ok : Ok 3 t := r.okLay
    refine ⟨_, rfl, x, t, rfl, hT2, ok.mono (by decide), _, rfl, iteF ?_⟩
    obtain ⟨s, V2⟩ := r.vault
    exact ⟨_, _, s, fun Q' q => ⟨_, rfl, q⟩, V2, _, rfl, r.lay V2 (Same.insk (Same.refl H2)) hT2 fun n H3 st r3 => ⟨_, rfl, r3⟩⟩
  · rintro σ H2 ⟨v2, rfl, r⟩
    have hl := hts.length
    rw [hl, List.drop_length] at r
    obtain ⟨s, st, V2, q⟩ := r
    exact q H2 d (tu st) hd V2
end Wk
set_option Elab.async false
set_option linter.all false
set_option maxRecDepth 100000
set_option maxHeartbeats 4000000
/-! Nodes. -/
namespace Wk
open PySem PySem.Spec PyProof.Rows L2 Pv Ph
variable {P : Program} {w : World} {K : PySem.W.Frag} {mg : Str → Option Value} {base : Heap}
def spWhole : Sp := fun vs H Q _ => ∃ (i l : Int) (m : V), vs = [.int i, .int l, m] ∧ l ≤ i ∧ (m = .non ∨ ∃ k, m = .int k ∧ i ≤ k) ∧ Q (.bl true) H
theorem fo_is_whole (T : Tx K mg) : Fo P w K mg base CX0 1 (ad K "is_whole") spWhole := by
  have S : FnScope ["thing", "least", "most"] ["thing", "least", "most"] (defScope (top 49)) := ⟨rfl, rfl, rfl, by decide +kernel, rfl, by decide +kernel, by decide +kernel⟩
  refine T.d_is_whole.ok S (fun _ _ _ _ _ _ us hl => match us, hl with | [_, _, _], _ => rfl) (fun vs H Q E h => by obtain ⟨i, l, m, rfl, _⟩ := h; rfl) (fun cdv A outer s H vs Q E hr h => ⟨_, PSs.nox ((pss_cons (ps_if (PW.pt (pw_or (pt_not (pt_val (pe_callB call_isi (by rfl) T.n_isinstance (by decide +kernel) (pa_cons (pv 0) (pa_cons (pe_bltn (v := V.ty "int") (u := Value.type "int") rfl T.n_int (by decide +kernel) rfl) pa_nil))))) (pw_or (pt_val (pe_callB call_isi (by rfl) T.n_isinstance (by decide +kernel) (pa_cons (pv 0) (pa_cons (pe_bltn (v := V.ty "bool") (u := Value.type "bool") rfl T.n_bool (by decide +kernel) rfl) pa_nil)))) (pw_or1 (pt_cmpR op_lt (pv 0) (pv 1) (nomark _)))))) (pss_one (ps_ret pe_bl)) pss_nil) (pss_one (ps_ret (pe_or (pe_cmpR op_isN (pv 2) pe_non (nomark _)) (pe_one (pe_cmpR op_le (pv 0) (pv 2) (nomark _)))))))), ?_⟩)
  obtain ⟨i, l, m, rfl, hl, hm, k⟩ := h
  refine ⟨_, rfl, _, _, _, _, _, rfl, .ty _, tyX (.int i), kit_ty (kitT _).1, _, rfl, iteF ?_⟩
  refine ⟨_, rfl, _, _, _, _, _, rfl, .ty _, tyX (.int i), kit_ty (kitT _).2.2.2.1, _, rfl, iteF ?_⟩
  refine ⟨_, rfl, _, rfl, _, _, rfl, rfl, _, rfl, ite2 (fun c => ?_) (fun c => ?_)⟩
  · have := of_decide_eq_true c
    omega
  · rcases hm with rfl | ⟨k', rfl, hk⟩
    · exact ⟨_, rfl, rfl, _, rfl, iteT k⟩
    · refine ⟨_, rfl, rfl, _, rfl, iteF ?_⟩
      refine ⟨_, rfl, _, rfl, _, _, rfl, rfl, ?_⟩
      show Q (.bl (decide (i ≤ k'))) H
      rw [decide_eq_true hk]
      exact k
/-- a node as a value -/
structure NdV (H : Hp) (x : V) (n : Nd) : Prop where
  is_ : n.Is
  ok : Ok 2 n.key ∧ Ok 2 n.worth
  ex : ∃ a x1 x2, x = .ref a ∧ H a = some (.tup [x1, x2, .int n.left, .int n.right, .int n.count]) ∧ IsT H x1 n.key ∧ IsT H x2 n.worth
theorem NdV.of {H : Hp} {x : V} {n : Nd} (h : IsT H x n.th) (i : n.Is) (o : Ok 2 n.key ∧ Ok 2 n.worth) : NdV H x n := by
  unfold Nd.th at h
  cases h with
  | @tup a xs _ ha hts =>
    cases hts with
    | @cons x1 _ _ _ h1 hts => cases hts with
      | @cons x2 _ _ _ h2 hts => cases hts with
        | @cons x3 _ _ _ h3 hts => cases hts with
          | @cons x4 _ _ _ h4 hts => cases hts with
            | @cons x5 _ _ _ h5 hts => cases hts with
              | nil =>
                cases h3
                cases h4
                cases h5
                exact ⟨i, o, a, x1, x2, rfl, ha, h1, h2⟩
theorem NdV.ist {H : Hp} {x : V} {n : Nd} (h : NdV H x n) : IsT H x n.th := by
  obtain ⟨i, _, a, x1, x2, rfl, ha, h1, h2⟩ := h
  exact .tup ha (.cons h1 (.cons h2 (.cons (.int _) (.cons (.int _) (.cons (.int _) .nil)))))
theorem NdV.ext {H H' : Hp} (t : Tups H H') {x : V} {n : Nd} (h : NdV H x n) : NdV H' x n := NdV.of (h.ist.ext t) h.is_ h.ok
def spIsNode : Sp := fun vs H Q _ => ∃ v n, vs = [v] ∧ NdV H v n ∧ Q (.bl true) H
theorem fo_is_node (T : Tx K mg) : Fo P w K mg base CX0 2 (ad K "is_node") spIsNode := by
  have S : FnScope ["thing", "key", "worth", "left", "right", "count"] ["thing"] (defScope (top 50)) := ⟨rfl, rfl, rfl, by decide +kernel, rfl, by decide +kernel, by decide +kernel⟩
  obtain ⟨t_MOST_NODES, h_MOST_NODES⟩ := T.i_MOST_NODES
  have F_is_whole : Fo P w K mg base CX0 1 (ad K "is_whole") spWhole := fo_is_whole T
  refine T.d_is_node.ok S (fun _ _ _ _ _ _ us hl => match us, hl with | [_], _ => rfl) (fun vs H Q E h => by obtain ⟨v, n, rfl, _⟩ := h; rfl) (fun cdv A outer s H vs Q E hr_is_whole h => ⟨_, PSs.nox ((pss_cons (ps_if (PW.pt (pw_or (pt_not (pt_val (pe_callB call_isi (by rfl) T.n_isinstance (by decide +kernel) (pa_cons (pv 0) (pa_cons (pe_bltn (v := V.ty "tuple") (u := Value.type "tuple") rfl T.n_tuple (by decide +kernel) rfl) pa_nil))))) (pw_or1 (pt_cmpR op_ne (pe_callB call_len (by rfl) T.n_len PySem.boot_len (pa_cons (pv 0) pa_nil)) pe_int (nomark _))))) (pss_one (ps_ret pe_bl)) pss_nil) (pss_cons (ps_asg (pv 0) (pg_tup rfl (pgs_cons (pg_name (i := 1) S.nd rfl (Or.inl rfl)) (pgs_cons (pg_name (i := 2) S.nd rfl (Or.inl rfl)) (pgs_cons (pg_name (i := 3) S.nd rfl (Or.inl rfl)) (pgs_cons (pg_name (i := 4) S.nd rfl (Or.inl rfl)) (pgs_cons (pg_name (i := 5) S.nd rfl (Or.inl rfl)) pgs_nil))))))) (pss_cons (ps_if (PW.pt (pw_or (pt_cmpR op_isN (pv 1) pe_non (nomark _)) (pw_or1 (pt_cmpR op_isN (pv 2) pe_non (nomark _))))) (pss_one (ps_ret pe_bl)) pss_nil) (pss_one (ps_ret (pe_and (pe_fn F_is_whole hr_is_whole rfl T.b_is_whole.g pass0 (pa_cons (pv 3) (pa_cons pe_int (pa_cons pe_non pa_nil)))) (pe_and (pe_fn F_is_whole hr_is_whole rfl T.b_is_whole.g pass0 (pa_cons (pv 4) (pa_cons pe_int (pa_cons pe_non pa_nil)))) (pe_one (pe_fn F_is_whole hr_is_whole rfl T.b_is_whole.g pass0 (pa_cons (pv 5) (pa_cons pe_int (pa_cons (pe_glob (v := V.int 300) rfl h_MOST_NODES ⟨_, rfl⟩) pa_nil))))))))))))), ?_⟩)
  obtain ⟨v, n, rfl, hN, k⟩ := h
  have hT := hN.ist
  obtain ⟨ni, _, a, x1, x2, rfl, ha, h1, h2⟩ := hN
  refine ⟨_, rfl, _, _, _, _, _, rfl, .ty _, tyX hT, kit_ty (kitT _).2.2.1, _, rfl, iteF ?_⟩
  refine ⟨_, rfl, _, _, rfl, .inr ⟨_, SqT.of ha, rfl⟩, rfl, _, rfl, iteF ?_⟩
  refine ⟨_, rfl, a, _, rfl, SqT.of ha, rfl, _, _, rfl, _, _, rfl, _, _, rfl, _, _, rfl, _, _, rfl, rfl, ?_⟩
  refine ⟨_, rfl, rfl, _, rfl, ite2 (fun c => ?_) (fun c => ?_)⟩
  · rw [dec_non h1] at c
    have := ni.k0
    cases hk : n.key <;> rw [hk] at c this <;> first | exact absurd rfl this | cases c
  · refine ⟨_, rfl, rfl, _, rfl, ite2 (fun c2 => ?_) (fun c2 => ?_)⟩
    · rw [dec_non h2] at c2
      have := ni.w0
      cases hk : n.worth <;> rw [hk] at c2 this <;> first | exact absurd rfl this | cases c2
    · refine ⟨_, rfl, n.left, 0, .non, rfl, ni.l0, .inl rfl, _, rfl, iteT ?_⟩
      refine ⟨_, rfl, n.right, 0, .non, rfl, ni.r0, .inl rfl, _, rfl, iteT ?_⟩
      exact ⟨_, rfl, n.count, 1, .int 300, rfl, ni.c1, .inr ⟨300, rfl, ni.c3⟩, k⟩
/-! ### node_at, .. -/
def spNodeAt (K : PySem.W.Frag) : Sp := fun vs H Q E => ∃ v root, vs = [v, .int root] ∧ Does K H v (nodeAt root) NdV Q E
theorem fo_node_at (T : Tx K mg) : Fo P w K mg base (L2.CX P w) 3 (ad K "node_at") (spNodeAt K) := by
  have S : FnScope ["vault", "root", "node"] ["vault", "root"] (defScope (top 51)) := ⟨rfl, rfl, rfl, by decide +kernel, rfl, by decide +kernel, by decide +kernel⟩
  have F_is_node : Fo P w K mg base CX0 2 (ad K "is_node") spIsNode := fo_is_node T
  refine T.d_node_at.ok S (fun _ _ _ _ _ _ us hl => match us, hl with | [_, _], _ => rfl) (fun vs H Q E h => by obtain ⟨v, root, rfl, _⟩ := h; rfl) (fun cdv A outer s H vs Q E hr2 h => ?_)
  have hr_is_node := hr2
  refine ⟨_, (pss_cons (ps_set (i := 2) S.nd rfl (Or.inl rfl) (pe_vthing T hr2 passX (pv 0) (pa_cons (pv 1) pa_nil))) (pss_cons (ps_if (pt_not (pt_val (pe_fn F_is_node hr_is_node rfl T.b_is_node.g pass0 (pa_cons (pv 2) pa_nil)))) (pss_one ps_never) pss_nil) (pss_one (ps_ret (pv 2))))), ?_⟩
  obtain ⟨v, root, rfl, hD⟩ := h
  obtain ⟨M, hM, r⟩ := hD.start
  obtain ⟨s0, V0⟩ := r.vault
  refine ⟨v, M, s0, fun Q' q => ⟨_, rfl, q⟩, V0, _, rfl, Run.thing r V0 (Same.insk (Same.refl H)) fun t H1 x st r1 ⟨hT, ok3⟩ => ?_⟩
  cases e : asNd t with
  | none =>
    rw [e] at r1
    exact r1.bad.elim
  | some n =>
    rw [e] at r1
    obtain ⟨rfl, hb⟩ := asNd_some e
    have hN := NdV.of hT (Nd.is_of hb) (Ok_th ok3)
    exact ⟨_, rfl, x, n, rfl, hN, _, rfl, iteF ⟨_, rfl, r1.ret hN⟩⟩
def spNodeBeneath (K : PySem.W.Frag) : Sp := fun vs H Q E => ∃ v root count, vs = [v, .int root, .int count] ∧ Does K H v (nodeBeneath root count) NdV Q E
theorem fo_node_beneath (T : Tx K mg) : Fo P w K mg base (L2.CX P w) 4 (ad K "node_beneath") (spNodeBeneath K) := by
  have S : FnScope ["vault", "root", "count", "node"] ["vault", "root", "count"] (defScope (top 52)) := ⟨rfl, rfl, rfl, by decide +kernel, rfl, by decide +kernel, by decide +kernel⟩
  have F_node_at : Fo P w K mg base (L2.CX P w) 3 (ad K "node_at") (spNodeAt K) := fo_node_at T
  refine T.d_node_beneath.ok S (fun _ _ _ _ _ _ us hl => match us, hl with | [_, _, _], _ => rfl) (fun vs H Q E h => by obtain ⟨v, root, c, rfl, _⟩ := h; rfl) (fun cdv A outer s H vs Q E hr_node_at h => ⟨_, (pss_cons (ps_set (i := 3) S.nd rfl (Or.inl rfl) (pe_fn F_node_at hr_node_at rfl T.b_node_at.g passX (pa_cons (pv 0) (pa_cons (pv 1) pa_nil)))) (pss_cons (ps_if (pt_cmpR op_ge (pe_ix ix_tup (pv 3) pe_int (fun _ _ => rfl)) (pv 2) (nomark _)) (pss_one ps_never) pss_nil) (pss_one (ps_ret (pv 3))))), ?_⟩)
  obtain ⟨v, root, c, rfl, hD⟩ := h
  obtain ⟨M, hM, r⟩ := hD.start
  refine ⟨_, rfl, _, rfl, v, root, rfl, r.call fun n H1 x st r1 hN => ?_⟩
  obtain ⟨ni, no, a, x1, x2, rfl, ha, h1, h2⟩ := id hN
  refine ⟨_, rfl, a, _, _, _, rfl, rfl, SqT.of ha, atI_nat (j := 4) rfl, _, rfl, _, _, rfl, rfl, _, rfl, ite2 (fun c1 => ?_) (fun c1 => ?_)⟩
  · have e : n.count ≥ c := of_decide_eq_true c1
    rw [if_pos e] at r1
    exact r1.bad.elim
  · have e : ¬ n.count ≥ c := fun z => c1 (decide_eq_true z)
    rw [if_neg e] at r1
    exact ⟨_, rfl, r1.ret hN⟩
def spSize (K : PySem.W.Frag) : Sp := fun vs H Q E => ∃ v root, vs = [v, .int root] ∧ Does K H v (sizeP root) (fun _ x n => x = .int n) Q E
theorem fo_size (T : Tx K mg) : Fo P w K mg base (L2.CX P w) 4 (ad K "size") (spSize K) := by
  have S : FnScope ["vault", "root"] ["vault", "root"] (defScope (top 53)) := ⟨rfl, rfl, rfl, by decide +kernel, rfl, by decide +kernel, by decide +kernel⟩
  have F_node_at : Fo P w K mg base (L2.CX P w) 3 (ad K "node_at") (spNodeAt K) := fo_node_at T
  refine T.d_size.ok S (fun _ _ _ _ _ _ us hl => match us, hl with | [_, _], _ => rfl) (fun vs H Q E h => by obtain ⟨v, root, rfl, _⟩ := h; rfl) (fun cdv A outer s H vs Q E hr_node_at h => ⟨_, (pss_cons (ps_if (pt_cmpR op_eq (pv 1) pe_int (nomark _)) (pss_one (ps_ret pe_int)) pss_nil) (pss_one (ps_ret (pe_ix ix_tup (pe_fn F_node_at hr_node_at rfl T.b_node_at.g passX (pa_cons (pv 0) (pa_cons (pv 1) pa_nil))) pe_int (fun _ _ => rfl))))), ?_⟩)
  obtain ⟨v, root, rfl, hD⟩ := h
  obtain ⟨M, hM, r⟩ := hD.start
  unfold sizeP at r
  refine ⟨_, rfl, rfl, _, rfl, ite2 (fun c => ?_) (fun c => ?_)⟩
  · have e : root = 0 := by have := of_decide_eq_true c; injection this
    rw [if_pos e] at r
    exact r.ret rfl
  · have e : ¬ root = 0 := fun z => c (by rw [z]; rfl)
    rw [if_neg e] at r
    refine ⟨_, rfl, _, rfl, v, root, rfl, r.call fun n H1 x st r1 hN => ?_⟩
    obtain ⟨ni, no, a, x1, x2, rfl, ha, h1, h2⟩ := id hN
    exact ⟨a, _, _, _, rfl, rfl, SqT.of ha, atI_nat (j := 4) rfl, r1.ret rfl⟩
def spSizeBeneath (K : PySem.W.Frag) : Sp := fun vs H Q E => ∃ v root count, vs = [v, .int root, .int count] ∧ Does K H v (sizeBeneath root count) (fun _ x n => x = .int n) Q E
theorem fo_size_beneath (T : Tx K mg) : Fo P w K mg base (L2.CX P w) 5 (ad K "size_beneath") (spSizeBeneath K) := by
  have S : FnScope ["vault", "root", "count"] ["vault", "root", "count"] (defScope (top 54)) := ⟨rfl, rfl, rfl, by decide +kernel, rfl, by decide +kernel, by decide +kernel⟩
  have F_node_beneath : Fo P w K mg base (L2.CX P w) 4 (ad K "node_beneath") (spNodeBeneath K) := fo_node_beneath T
  refine T.d_size_beneath.ok S (fun _ _ _ _ _ _ us hl => match us, hl with | [_, _, _], _ => rfl) (fun vs H Q E h => by obtain ⟨v, root, c, rfl, _⟩ := h; rfl) (fun cdv A outer s H vs Q E hr_node_beneath h => ⟨_, (pss_cons (ps_if (pt_cmpR op_eq (pv 1) pe_int (nomark _)) (pss_one (ps_ret pe_int)) pss_nil) (pss_one (ps_ret (pe_ix ix_tup (pe_fn F_node_beneath hr_node_beneath rfl T.b_node_beneath.g passX (pa_cons (pv 0) (pa_cons (pv 1) (pa_cons (pv 2) pa_nil)))) pe_int (fun _ _ => rfl))))), ?_⟩)
  obtain ⟨v, root, c, rfl, hD⟩ := h
  obtain ⟨M, hM, r⟩ := hD.start
  unfold sizeBeneath at r
  refine ⟨_, rfl, rfl, _, rfl, ite2 (fun c1 => ?_) (fun c1 => ?_)⟩
  · have e : root = 0 := by have := of_decide_eq_true c1; injection this
    rw [if_pos e] at r
    exact r.ret rfl
  · have e : ¬ root = 0 := fun z => c1 (by rw [z]; rfl)
    rw [if_neg e] at r
    refine ⟨_, rfl, _, rfl, _, rfl, v, root, c, rfl, r.call fun n H1 x st r1 hN => ?_⟩
    obtain ⟨ni, no, a, x1, x2, rfl, ha, h1, h2⟩ := id hN
    exact ⟨a, _, _, _, rfl, rfl, SqT.of ha, atI_nat (j := 4) rfl, r1.ret rfl⟩
/-! ### rank, above -/
def spRank : Sp := fun vs H Q _ => ∃ v t, vs = [v] ∧ IsT H v t ∧ Ok 2 t ∧ ∀ H', Same H H' → Q (.int (rankOf t)) H'
theorem ok_rank : OkTx (Str.ofString "rank") := by
  refine ⟨by decide, ?_⟩
  decide
theorem fo_rank (T : Tx K mg) : Fo P w K mg base CX0 7 (ad K "rank") spRank := by
  have S : FnScope ["key"] ["key"] (defScope (top 55)) := ⟨rfl, rfl, rfl, by decide +kernel, rfl, by decide +kernel, by decide +kernel⟩
  have F_seal : Fo P w K mg base CX0 6 (ad K "seal") spSeal := fo_seal T
  refine T.d_rank.ok S (fun _ _ _ _ _ _ us hl => match us, hl with | [_], _ => rfl) (fun vs H Q E h => by obtain ⟨v, t, rfl, _⟩ := h; rfl) (fun cdv A outer s H vs Q E hr_seal h => ⟨_, PSs.nox ((pss_one (ps_ret (pe_fn F_seal hr_seal rfl T.b_seal.g pass0 (pa_cons (pe_tup (pa_cons pe_str (pa_cons (pv 0) pa_nil))) pa_nil))))), ?_⟩)
  obtain ⟨v, t, rfl, hT, ok, k⟩ := h
  refine ⟨_, rfl, by show 2 ≤ sizeLine; decide, fun p hp => ?_⟩
  have sm : Same H (upd H p (.tup [.str (Str.ofString "rank"), v])) := same_new (Same.refl H) hp
  refine ⟨_, .tup [.text (Str.ofString "rank"), t], rfl, .tup upd_same (.cons (.str _) (.cons (hT.same sm) .nil)), ?_, fun H' s2 => k H' (sm.trans s2)⟩
  simp only [Ok, OkAll]
  exact ⟨by decide, by show 2 ≤ 40; decide, ok_rank, ok, trivial⟩
def spAbove : Sp := fun vs H Q _ => ∃ u v a b, vs = [u, v] ∧ IsT H u a ∧ IsT H v b ∧ Ok 2 a ∧ Ok 2 b ∧ ∀ H', Same H H' → Q (.bl (above a b)) H'
theorem fo_above (T : Tx K mg) : Fo P w K mg base CX0 10 (ad K "above") spAbove := by
  have S : FnScope ["key", "other", "own", "its"] ["key", "other"] (defScope (top 56)) := ⟨rfl, rfl, rfl, by decide +kernel, rfl, by decide +kernel, by decide +kernel⟩
  have F_rank : Fo P w K mg base CX0 7 (ad K "rank") spRank := fo_rank T
  have F_ahead : Fo P w K mg base CX0 9 (ad K "ahead") spAhead := fo_ahead T
  refine T.d_above.ok S (fun _ _ _ _ _ _ us hl => match us, hl with | [_, _], _ => rfl) (fun vs H Q E h => by obtain ⟨u, v, a, b, rfl, _⟩ := h; rfl) (fun cdv A outer s H vs Q E hr_ahead h => ?_)
  have hr_rank := hr_ahead.mono (show 7 ≤ 9 by decide)
  refine ⟨_, PSs.nox ((pss_cons (ps_set (i := 2) S.nd rfl (Or.inl rfl) (pe_fn F_rank hr_rank rfl T.b_rank.g pass0 (pa_cons (pv 0) pa_nil))) (pss_cons (ps_set (i := 3) S.nd rfl (Or.inl rfl) (pe_fn F_rank hr_rank rfl T.b_rank.g pass0 (pa_cons (pv 1) pa_nil))) (pss_one (ps_ret (pe_or (pe_cmpR op_gt (pv 2) (pv 3) (nomark _)) (pe_one (pe_and (pe_cmpR op_eq (pv 2) (pv 3) (nomark _)) (pe_one (pe_fn F_ahead hr_ahead rfl T.b_ahead.g pass0 (pa_cons (pv 0) (pa_cons (pv 1) pa_nil)))))))))))), ?_⟩
  obtain ⟨u, v, a, b, rfl, ha, hb, oa, ob, k⟩ := h
  refine ⟨_, rfl, u, a, rfl, ha, oa, fun H1 s1 => ⟨_, rfl, v, b, rfl, hb.same s1, ob, fun H2 s2 => ?_⟩⟩
  have sm := s1.trans s2
  refine ⟨_, rfl, _, rfl, _, _, rfl, rfl, _, rfl, ite2 (fun c => ?_) (fun c => ?_)⟩
  · have q := k H2 sm
    unfold above at q
    rw [c, Bool.true_or] at q
    exact q
  · have c' : decide (rankOf a > rankOf b) = false := by simpa using c
    refine ⟨_, rfl, _, rfl, rfl, _, rfl, ite2 (fun c2 => ?_) (fun c2 => ?_)⟩
    · refine ⟨_, rfl, _, rfl, u, v, a, b, rfl, ha.same sm, hb.same sm, Nat.le_trans oa.depth (by decide), fun H3 s3 => ?_⟩
      have q := k H3 (sm.trans s3)
      have e : rankOf a = rankOf b := by have := of_decide_eq_true c2; injection this
      unfold above at q
      rw [c', Bool.false_or, decide_eq_true e, Bool.true_and] at q
      exact q
    · have q := k H2 sm
      have e : ¬ rankOf a = rankOf b := fun z => c2 (by rw [z]; simp)
      unfold above at q
      rw [c', Bool.false_or, decide_eq_false e, Bool.false_and] at q
      exact q
end Wk
set_option Elab.async false
set_option linter.all false
set_option maxRecDepth 100000
set_option maxHeartbeats 4000000
/-! Trees: found, stretch. -/
namespace Wk
open PySem PySem.Spec PyProof.Rows L2 Pv Ph
variable {P : Program} {w : World} {K : PySem.W.Frag} {mg : Str → Option Value} {base : Heap}
theorem Run.tups {H0 H : Hp} {M : List Addr} {E : XK} {v : V} {α : Type} {p : Pg α} {Qf : α → VS → Prop} (r : Run K H0 M E v p Qf H) (hM : ∀ d ∈ M, ∃ kvs, H0 d = some (.dK kvs)) : Tups H0 H := r.step.tups hM
def spFound (K : PySem.W.Frag) : Sp := fun vs H Q E => ∃ v root kv key, vs = [v, .int root, kv] ∧ IsT H kv key ∧ key.depth ≤ 6 ∧ Does K H v (foundP key 302 301 root) (fun H' x t => IsT H' x t) Q E
theorem fo_found (T : Tx K mg) : Fo P w K mg base (L2.CX P w) 10 (ad K "found") (spFound K) := by
  have S : FnScope ["vault", "root", "key", "count", "node"] ["vault", "root", "key"] (defScope (top 59)) := ⟨rfl, rfl, rfl, by decide +kernel, rfl, by decide +kernel, by decide +kernel⟩
  obtain ⟨t_UNBOUND, h_UNBOUND⟩ := T.i_UNBOUND
  have F_node_beneath : Fo P w K mg base (L2.CX P w) 4 (ad K "node_beneath") (spNodeBeneath K) := fo_node_beneath T
  have F_ahead : Fo P w K mg base CX0 9 (ad K "ahead") spAhead := fo_ahead T
  refine T.d_found.ok S (fun _ _ _ _ _ _ us hl => match us, hl with | [_, _, _], _ => rfl) (fun vs H Q E h => by obtain ⟨v, root, kv, key, rfl, _⟩ := h; rfl) (fun cdv A outer s H vs Q E hr_ahead h => ?_)
  have hr_node_beneath := hr_ahead.mono (show 4 ≤ 9 by decide)
  have hu6 := hr_ahead.units
  refine ⟨_, (pss_cons (ps_set (i := 3) S.nd rfl (Or.inl rfl) (pe_glob (v := V.int 301) rfl h_UNBOUND ⟨_, rfl⟩)) (pss_cons (ps_while ownX (pt_cmpR op_ne (pv 1) pe_int (nomark _)) (pss_cons (ps_set (i := 4) S.nd rfl (Or.inl rfl) (pe_fn F_node_beneath hr_node_beneath rfl T.b_node_beneath.g passX (pa_cons (pv 0) (pa_cons (pv 1) (pa_cons (pv 3) pa_nil))))) (pss_cons (ps_if (pt_cmpR (op_eqT hu6) (pe_ix ix_tup (pv 4) pe_int (fun _ _ => rfl)) (pv 2) (nomark _)) (pss_one (ps_ret (pe_ix ix_tup (pv 4) pe_int (fun _ _ => rfl)))) pss_nil) (pss_cons (ps_set (i := 3) S.nd rfl (Or.inl rfl) (pe_ix ix_tup (pv 4) pe_int (fun _ _ => rfl))) (pss_cons (ps_set (i := 1) S.nd rfl (Or.inl rfl) (pe_ix ix_tup (pv 4) pe_int (fun _ _ => rfl))) (pss_one (ps_if (pt_val (pe_fn F_ahead hr_ahead rfl T.b_ahead.g pass0 (pa_cons (pv 2) (pa_cons (pe_ix ix_tup (pv 4) pe_int (fun _ _ => rfl)) pa_nil)))) (pss_one (ps_set (i := 1) S.nd rfl (Or.inl rfl) (pe_ix ix_tup (pv 4) pe_int (fun _ _ => rfl)))) pss_nil))))))) (pss_one (ps_ret pe_non)))), ?_⟩
  obtain ⟨v, root, kv, key, rfl, hk, dk, hD⟩ := h
  obtain ⟨M, hM, r⟩ := hD.start
  refine ⟨fun f σ H' => ∃ root c v4, σ = [some v, some (.int root), some kv, some (.int c), v4] ∧ Run K H M E v (foundP key f c root) (fun a s' => ∀ H' x, Step M H H' → VaultAt K H' v s' M → IsT H' x a → Q x H') H', ⟨302, root, 301, _, rfl, r⟩, ?_⟩
  rintro f σ H1 ⟨root, c, v4, rfl, r1⟩
  cases f with
  | zero => exact r1.bad.elim
  | succ f =>
    unfold foundP at r1
    refine ⟨_, rfl, rfl, _, rfl, ite2 (fun c1 => ?_) (fun c1 => ?_)⟩
    · have e : ¬ root = 0 := fun z => by rw [z] at c1; simp at c1
      rw [if_neg e] at r1
      refine ⟨fun σ' H' => ∃ root c v4, σ' = [some v, some (.int root), some kv, some (.int c), v4] ∧ Run K H M E v (foundP key f c root) (fun a s' => ∀ H' x, Step M H H' → VaultAt K H' v s' M → IsT H' x a → Q x H') H', fun σ' H' wv => ⟨f, Nat.lt_succ_self _, wv⟩, ?_⟩
      refine ⟨_, rfl, _, rfl, _, rfl, v, root, c, rfl, r1.call fun n H2 x st r2 hN => ?_⟩
      obtain ⟨ni, no, a, x1, x2, rfl, ha, h1, h2⟩ := id hN
      have hk2 := hk.ext (r2.tups hM)
      refine ⟨_, rfl, a, _, _, _, rfl, rfl, SqT.of ha, atI_nat (j := 0) rfl, _, rfl, n.key, key, h1, hk2, Nat.le_trans no.1.depth (by decide), _, rfl, ite2 (fun c2 => ?_) (fun c2 => ?_)⟩
      · rw [if_pos (of_decide_eq_true c2)] at r2
        exact ⟨_, rfl, a, _, _, _, rfl, rfl, SqT.of ha, atI_nat (j := 1) rfl, r2.ret h2⟩
      · rw [if_neg (fun z => c2 (decide_eq_true z))] at r2
        refine ⟨_, rfl, a, _, _, _, rfl, rfl, SqT.of ha, atI_nat (j := 4) rfl, _, rfl, a, _, _, _, rfl, rfl, SqT.of ha, atI_nat (j := 3) rfl, _, rfl, _, rfl, a, _, _, _, rfl, rfl, SqT.of ha, atI_nat (j := 0) rfl, kv, x1, key, n.key, rfl, hk2, h1, dk, fun H3 s3 => ⟨_, rfl, ?_⟩⟩
        have r3 := r2.same s3
        cases hah : ahead key n.key with
        | true =>
          rw [if_pos hah] at r3
          exact iteT ⟨_, rfl, a, _, _, _, rfl, rfl, SqT.of (s3 _ _ ha), atI_nat (j := 2) rfl, n.left, n.count, _, rfl, r3⟩
        | false =>
          rw [if_neg (by rw [hah]; decide)] at r3
          exact iteF ⟨n.right, n.count, _, rfl, r3⟩
    · have e : root = 0 := by
        by_cases z : root = 0
        · exact z
        · exfalso; apply c1; simp [z]
      rw [if_pos e] at r1
      exact r1.ret .non
/-! ### the small tests -/
def spGoesL : Sp := fun vs H Q _ => ∃ u v a b, vs = [u, v] ∧ IsT H u a ∧ IsT H v b ∧ a.depth ≤ 6 ∧ b.depth ≤ 6 ∧ ∀ H', Same H H' → Q (.bl (goesLeft a b)) H'
theorem none_dec {t : Th} : isNone t = decide (t = .none) := by cases t <;> simp [isNone]
theorem fo_goes_left (T : Tx K mg) : Fo P w K mg base CX0 10 (ad K "goes_left") spGoesL := by
  have S : FnScope ["low", "key"] ["low", "key"] (defScope (top 60)) := ⟨rfl, rfl, rfl, by decide +kernel, rfl, by decide +kernel, by decide +kernel⟩
  have F_ahead : Fo P w K mg base CX0 9 (ad K "ahead") spAhead := fo_ahead T
  refine T.d_goes_left.ok S (fun _ _ _ _ _ _ us hl => match us, hl with | [_, _], _ => rfl) (fun vs H Q E h => by obtain ⟨u, v, a, b, rfl, _⟩ := h; rfl) (fun cdv A outer s H vs Q E hr_ahead h => ⟨_, PSs.nox ((pss_one (ps_ret (pe_or (pe_cmpR op_isN (pv 0) pe_non (nomark _)) (pe_one (pe_fn F_ahead hr_ahead rfl T.b_ahead.g pass0 (pa_cons (pv 0) (pa_cons (pv 1) pa_nil)))))))), ?_⟩)
  obtain ⟨u, v, a, b, rfl, ha, hb, da, db, k⟩ := h
  refine ⟨_, rfl, rfl, _, rfl, ite2 (fun c => ?_) (fun c => ?_)⟩
  · rw [dec_non ha, none_dec] at c
    have q := k H (Same.refl H)
    unfold goesLeft at q
    rw [c, Bool.true_or] at q
    exact q
  · rw [dec_non ha, none_dec] at c
    refine ⟨_, rfl, _, rfl, u, v, a, b, rfl, ha, hb, da, fun H1 sm => ?_⟩
    have q := k H1 sm
    have c' : decide (a = .none) = false := by simpa using c
    unfold goesLeft at q
    rw [c', Bool.false_or] at q
    exact q
def spGoesR : Sp := fun vs H Q _ => ∃ u v a b, vs = [u, v] ∧ IsT H u a ∧ IsT H v b ∧ a.depth ≤ 6 ∧ b.depth ≤ 6 ∧ ∀ H', Same H H' → Q (.bl (goesRight a b)) H'
theorem fo_goes_right (T : Tx K mg) : Fo P w K mg base CX0 10 (ad K "goes_right") spGoesR := by
  have S : FnScope ["high", "key"] ["high", "key"] (defScope (top 61)) := ⟨rfl, rfl, rfl, by decide +kernel, rfl, by decide +kernel, by decide +kernel⟩
  have F_ahead : Fo P w K mg base CX0 9 (ad K "ahead") spAhead := fo_ahead T
  refine T.d_goes_right.ok S (fun _ _ _ _ _ _ us hl => match us, hl with | [_, _], _ => rfl) (fun vs H Q E h => by obtain ⟨u, v, a, b, rfl, _⟩ := h; rfl) (fun cdv A outer s H vs Q E hr_ahead h => ⟨_, PSs.nox ((pss_one (ps_ret (pe_or (pe_cmpR op_isN (pv 0) pe_non (nomark _)) (pe_one (pe_fn F_ahead hr_ahead rfl T.b_ahead.g pass0 (pa_cons (pv 1) (pa_cons (pv 0) pa_nil)))))))), ?_⟩)
  obtain ⟨u, v, a, b, rfl, ha, hb, da, db, k⟩ := h
  refine ⟨_, rfl, rfl, _, rfl, ite2 (fun c => ?_) (fun c => ?_)⟩
  · rw [dec_non ha, none_dec] at c
    have q := k H (Same.refl H)
    unfold goesRight at q
    rw [c, Bool.true_or] at q
    exact q
  · rw [dec_non ha, none_dec] at c
    refine ⟨_, rfl, _, rfl, v, u, b, a, rfl, hb, ha, db, fun H1 sm => ?_⟩
    have q := k H1 sm
    have c' : decide (a = .none) = false := by simpa using c
    unfold goesRight at q
    rw [c', Bool.false_or] at q
    exact q
def spWithinT : Sp := fun vs H Q _ => ∃ u v y a b c, vs = [u, v, y] ∧ IsT H u a ∧ IsT H v b ∧ IsT H y c ∧ a.depth ≤ 6 ∧ b.depth ≤ 6 ∧ c.depth ≤ 6 ∧ ∀ H', Same H H' → Q (.bl (isWithin a b c)) H'
theorem fo_is_within_trees (T : Tx K mg) : Fo P w K mg base CX0 11 (ad K "is_within_trees") spWithinT := by
  have S : FnScope ["low", "high", "key"] ["low", "high", "key"] (defScope (top 62)) := ⟨rfl, rfl, rfl, by decide +kernel, rfl, by decide +kernel, by decide +kernel⟩
  have F_ahead : Fo P w K mg base CX0 9 (ad K "ahead") spAhead := fo_ahead T
  have F_goes_right : Fo P w K mg base CX0 10 (ad K "goes_right") spGoesR := fo_goes_right T
  refine T.d_is_within_trees.ok S (fun _ _ _ _ _ _ us hl => match us, hl with | [_, _, _], _ => rfl) (fun vs H Q E h => by obtain ⟨u, v, y, a, b, c, rfl, _⟩ := h; rfl) (fun cdv A outer s H vs Q E hr_goes_right h => ?_)
  have hr_ahead := hr_goes_right.mono (show 9 ≤ 10 by decide)
  refine ⟨_, PSs.nox ((pss_one (ps_ret (pe_and (pe_or (pe_cmpR op_isN (pv 0) pe_non (nomark _)) (pe_one (pe_not (pe_fn F_ahead hr_ahead rfl T.b_ahead.g pass0 (pa_cons (pv 2) (pa_cons (pv 0) pa_nil)))))) (pe_one (pe_fn F_goes_right hr_goes_right rfl T.b_goes_right.g pass0 (pa_cons (pv 1) (pa_cons (pv 2) pa_nil)))))))), ?_⟩
  obtain ⟨u, v, y, a, b, c, rfl, ha, hb, hc, da, db, dc, k⟩ := h
  have last : ∀ H1, Same H H1 → (decide (a = .none) || !ahead c a) = true → spGoesR [v, y] H1 Q E0 := fun H1 sm e => ⟨v, y, b, c, rfl, hb.same sm, hc.same sm, db, dc, fun H2 s2 => by
    have q := k H2 (sm.trans s2)
    unfold isWithin at q
    rw [e, Bool.true_and] at q
    exact q⟩
  refine ⟨_, rfl, rfl, _, rfl, ite2 (fun c1 => ?_) (fun c1 => ?_)⟩
  · rw [dec_non ha, none_dec] at c1
    exact ⟨_, rfl, iteT ⟨_, rfl, _, rfl, last H (Same.refl H) (by rw [c1]; rfl)⟩⟩
  · rw [dec_non ha, none_dec] at c1
    have c1' : decide (a = .none) = false := by simpa using c1
    refine ⟨_, rfl, _, rfl, y, u, c, a, rfl, hc, ha, dc, fun H1 sm => ⟨_, rfl, _, rfl, ite2 (fun c2 => ?_) (fun c2 => ?_)⟩⟩
    · exact ⟨_, rfl, _, rfl, last H1 sm (by rw [c1', Bool.false_or]; exact c2)⟩
    · have q := k H1 sm
      have c2' : (!ahead c a) = false := by simpa using c2
      unfold isWithin at q
      rw [c1', Bool.false_or, c2', Bool.false_and] at q
      exact q
def spEmpty : Sp := fun vs H Q _ => ∃ u v a b, vs = [u, v] ∧ IsT H u a ∧ IsT H v b ∧ a.depth ≤ 6 ∧ b.depth ≤ 6 ∧ ∀ H', Same H H' → Q (.bl (isEmpty a b)) H'
theorem fo_is_empty (T : Tx K mg) : Fo P w K mg base CX0 10 (ad K "is_empty") spEmpty := by
  have S : FnScope ["low", "high"] ["low", "high"] (defScope (top 65)) := ⟨rfl, rfl, rfl, by decide +kernel, rfl, by decide +kernel, by decide +kernel⟩
  have F_ahead : Fo P w K mg base CX0 9 (ad K "ahead") spAhead := fo_ahead T
  refine T.d_is_empty.ok S (fun _ _ _ _ _ _ us hl => match us, hl with | [_, _], _ => rfl) (fun vs H Q E h => by obtain ⟨u, v, a, b, rfl, _⟩ := h; rfl) (fun cdv A outer s H vs Q E hr_ahead h => ⟨_, PSs.nox ((pss_one (ps_ret (pe_and (pe_cmpR op_notN (pv 0) pe_non (nomark _)) (pe_and (pe_cmpR op_notN (pv 1) pe_non (nomark _)) (pe_one (pe_not (pe_fn F_ahead hr_ahead rfl T.b_ahead.g pass0 (pa_cons (pv 0) (pa_cons (pv 1) pa_nil)))))))))), ?_⟩)
  obtain ⟨u, v, a, b, rfl, ha, hb, da, db, k⟩ := h
  refine ⟨_, rfl, rfl, _, rfl, ite2 (fun c => ?_) (fun c => ?_)⟩
  · rw [dec_non ha, none_dec] at c
    have c' : a ≠ .none := fun z => by rw [z] at c; simp at c
    refine ⟨_, rfl, rfl, _, rfl, ite2 (fun c2 => ?_) (fun c2 => ?_)⟩
    · rw [dec_non hb, none_dec] at c2
      have c2' : b ≠ .none := fun z => by rw [z] at c2; simp at c2
      refine ⟨_, rfl, _, rfl, u, v, a, b, rfl, ha, hb, da, fun H1 sm => ⟨_, rfl, ?_⟩⟩
      have q := k H1 sm
      unfold isEmpty at q
      rw [decide_eq_true c', decide_eq_true c2', Bool.true_and, Bool.true_and] at q
      exact q
    · rw [dec_non hb, none_dec] at c2
      have c2' : ¬ b ≠ .none := fun z => c2 (by rw [decide_eq_false z]; rfl)
      have q := k H (Same.refl H)
      unfold isEmpty at q
      rw [decide_eq_true c', decide_eq_false c2', Bool.false_and, Bool.and_false] at q
      exact q
  · rw [dec_non ha, none_dec] at c
    have c' : ¬ a ≠ .none := fun z => c (by rw [decide_eq_false z]; rfl)
    have q := k H (Same.refl H)
    unfold isEmpty at q
    rw [decide_eq_false c', Bool.false_and] at q
    exact q
/-! ### need_counted -/
def spNeed (K : PySem.W.Frag) : Sp := fun vs H Q E => ∃ v x n, vs = [v, x] ∧ NdV H x n ∧ Does K H v (needCounted n) (fun _ x _ => x = .non) Q E
theorem fo_need_counted (T : Tx K mg) : Fo P w K mg base (L2.CX P w) 6 (ad K "need_counted") (spNeed K) := by
  have S : FnScope ["vault", "node", "left", "right"] ["vault", "node"] (defScope (top 64)) := ⟨rfl, rfl, rfl, by decide +kernel, rfl, by decide +kernel, by decide +kernel⟩
  have F_size_beneath : Fo P w K mg base (L2.CX P w) 5 (ad K "size_beneath") (spSizeBeneath K) := fo_size_beneath T
  refine T.d_need_counted.ok S (fun _ _ _ _ _ _ us hl => match us, hl with | [_, _], _ => rfl) (fun vs H Q E h => by obtain ⟨v, x, n, rfl, _⟩ := h; rfl) (fun cdv A outer s H vs Q E hr_size_beneath h => ⟨_, (pss_cons (ps_set (i := 2) S.nd rfl (Or.inl rfl) (pe_fn F_size_beneath hr_size_beneath rfl T.b_size_beneath.g passX (pa_cons (pv 0) (pa_cons (pe_ix ix_tup (pv 1) pe_int (fun _ _ => rfl)) (pa_cons (pe_ix ix_tup (pv 1) pe_int (fun _ _ => rfl)) pa_nil))))) (pss_cons (ps_set (i := 3) S.nd rfl (Or.inl rfl) (pe_fn F_size_beneath hr_size_beneath rfl T.b_size_beneath.g passX (pa_cons (pv 0) (pa_cons (pe_ix ix_tup (pv 1) pe_int (fun _ _ => rfl)) (pa_cons (pe_ix ix_tup (pv 1) pe_int (fun _ _ => rfl)) pa_nil))))) (pss_one (ps_if (pt_cmpR op_ne (pe_op op_add (pe_op op_add (pv 2) (pv 3)) pe_int) (pe_ix ix_tup (pv 1) pe_int (fun _ _ => rfl)) (nomark _)) (pss_one ps_never) pss_nil)))), ?_⟩)
  obtain ⟨v, x, n, rfl, hN, hD⟩ := h
  obtain ⟨M, hM, r⟩ := hD.start
  unfold needCounted at r
  obtain ⟨ni, no, a, x1, x2, rfl, ha, h1, h2⟩ := id hN
  refine ⟨_, rfl, _, rfl, a, _, _, _, rfl, rfl, SqT.of ha, atI_nat (j := 2) rfl, _, rfl, a, _, _, _, rfl, rfl, SqT.of ha, atI_nat (j := 4) rfl, v, n.left, n.count, rfl, r.call fun p H1 y st r1 e => ?_⟩
  subst e
  have ha1 := st.keep hM ha (fun _ z => nomatch z)
  refine ⟨_, rfl, _, rfl, a, _, _, _, rfl, rfl, SqT.of ha1, atI_nat (j := 3) rfl, _, rfl, a, _, _, _, rfl, rfl, SqT.of ha1, atI_nat (j := 4) rfl, v, n.right, n.count, rfl, r1.call fun q H2 y st2 r2 e => ?_⟩
  subst e
  have ha2 := r2.step.keep hM ha (fun _ z => nomatch z)
  refine ⟨_, rfl, _, rfl, _, _, rfl, rfl, _, _, rfl, rfl, _, rfl, a, _, _, _, rfl, rfl, SqT.of ha2, atI_nat (j := 4) rfl, rfl, _, rfl, ite2 (fun c => ?_) (fun c => ?_)⟩
  · have e : p + q + 1 ≠ n.count := fun z => by
      have c2 : (!decide (V.int (p + q + 1) = V.int n.count)) = true := c
      rw [z] at c2; simp at c2
    rw [if_pos e] at r2
    exact r2.bad.elim
  · have e : ¬ p + q + 1 ≠ n.count := fun z => c (by
      show (!decide (V.int (p + q + 1) = V.int n.count)) = true
      simp [z])
    rw [if_neg e] at r2
    exact r2.ret rfl
end Wk
set_option Elab.async false
set_option linter.all false
set_option maxRecDepth 100000
set_option maxHeartbeats 4000000
/-! Trees: ahead_of, counted, nth. -/
namespace Wk
open PySem PySem.Spec PyProof.Rows L2 Pv Ph
variable {P : Program} {w : World} {K : PySem.W.Frag} {mg : Str → Option Value} {base : Heap}
theorem ne0 {root : Int} (c : (!decide (V.int root = V.int 0)) = true) : ¬ root = 0 := fun z => by rw [z] at c; simp at c
theorem eq0 {root : Int} (c : ¬ (!decide (V.int root = V.int 0)) = true) : root = 0 := by
  by_cases z : root = 0
  · exact z
  · exfalso; apply c; simp [z]
def spAheadOf (K : PySem.W.Frag) : Sp := fun vs H Q E => ∃ v root kv key, vs = [v, .int root, kv] ∧ IsT H kv key ∧ Does K H v (aheadOf root key) (fun _ x n => x = .int n) Q E
theorem fo_ahead_of (T : Tx K mg) : Fo P w K mg base (L2.CX P w) 10 (ad K "ahead_of") (spAheadOf K) := by
  have S : FnScope ["vault", "root", "key", "many", "count", "node"] ["vault", "root", "key"] (defScope (top 67)) := ⟨rfl, rfl, rfl, by decide +kernel, rfl, by decide +kernel, by decide +kernel⟩
  obtain ⟨t_UNBOUND, h_UNBOUND⟩ := T.i_UNBOUND
  have F_node_beneath : Fo P w K mg base (L2.CX P w) 4 (ad K "node_beneath") (spNodeBeneath K) := fo_node_beneath T
  have F_size_beneath : Fo P w K mg base (L2.CX P w) 5 (ad K "size_beneath") (spSizeBeneath K) := fo_size_beneath T
  have F_ahead : Fo P w K mg base CX0 9 (ad K "ahead") spAhead := fo_ahead T
  refine T.d_ahead_of.ok S (fun _ _ _ _ _ _ us hl => match us, hl with | [_, _, _], _ => rfl) (fun vs H Q E h => by obtain ⟨v, root, kv, key, rfl, _⟩ := h; rfl) (fun cdv A outer s H vs Q E hr_ahead h => ?_)
  have hr_node_beneath := hr_ahead.mono (show 4 ≤ 9 by decide)
  have hr_size_beneath := hr_ahead.mono (show 5 ≤ 9 by decide)
  have hu6 := hr_ahead.units
  refine ⟨_, (pss_cons (ps_set (i := 3) S.nd rfl (Or.inl rfl) pe_int) (pss_cons (ps_set (i := 4) S.nd rfl (Or.inl rfl) (pe_glob (v := V.int 301) rfl h_UNBOUND ⟨_, rfl⟩)) (pss_cons (ps_while ownX (pt_cmpR op_ne (pv 1) pe_int (nomark _)) (pss_cons (ps_set (i := 5) S.nd rfl (Or.inl rfl) (pe_fn F_node_beneath hr_node_beneath rfl T.b_node_beneath.g passX (pa_cons (pv 0) (pa_cons (pv 1) (pa_cons (pv 4) pa_nil))))) (pss_cons (ps_set (i := 4) S.nd rfl (Or.inl rfl) (pe_ix ix_tup (pv 5) pe_int (fun _ _ => rfl))) (pss_cons (ps_set (i := 1) S.nd rfl (Or.inl rfl) (pe_ix ix_tup (pv 5) pe_int (fun _ _ => rfl))) (pss_cons (ps_if (pt_cmpR (op_eqT hu6) (pe_ix ix_tup (pv 5) pe_int (fun _ _ => rfl)) (pv 2) (nomark _)) (pss_one (ps_ret (pe_op op_add (pv 3) (pe_fn F_size_beneath hr_size_beneath rfl T.b_size_beneath.g passX (pa_cons (pv 0) (pa_cons (pv 1) (pa_cons (pv 4) pa_nil))))))) pss_nil) (pss_one (ps_if (pt_val (pe_fn F_ahead hr_ahead rfl T.b_ahead.g pass0 (pa_cons (pe_ix ix_tup (pv 5) pe_int (fun _ _ => rfl)) (pa_cons (pv 2) pa_nil)))) (pss_cons (ps_set (i := 1) S.nd rfl (Or.inl rfl) (pe_ix ix_tup (pv 5) pe_int (fun _ _ => rfl))) (pss_one (ps_aug (i := 3) S.nd rfl (Or.inl rfl) (pe_op op_sub (pv 4) (pe_fn F_size_beneath hr_size_beneath rfl T.b_size_beneath.g passX (pa_cons (pv 0) (pa_cons (pv 1) (pa_cons (pv 4) pa_nil))))) ip_add))) pss_nil))))))) (pss_one (ps_ret (pv 3)))))), ?_⟩
  obtain ⟨v, root, kv, key, rfl, hk, hD⟩ := h
  obtain ⟨M, hM, r⟩ := hD.start
  unfold aheadOf at r
  refine ⟨fun f σ H' => ∃ root c many v4, σ = [some v, some (.int root), some kv, some (.int many), some (.int c), v4] ∧ Run K H M E v (aheadOfP key f c root many) (fun a s' => ∀ H' x, Step M H H' → VaultAt K H' v s' M → x = .int a → Q x H') H', ⟨302, root, 301, 0, _, rfl, r⟩, ?_⟩
  rintro f σ H1 ⟨root, c, many, v4, rfl, r1⟩
  cases f with
  | zero => exact r1.bad.elim
  | succ f =>
    unfold aheadOfP at r1
    refine ⟨_, rfl, rfl, _, rfl, ite2 (fun c1 => ?_) (fun c1 => ?_)⟩
    · rw [if_neg (ne0 c1)] at r1
      refine ⟨fun σ' H' => ∃ root c many v4, σ' = [some v, some (.int root), some kv, some (.int many), some (.int c), v4] ∧ Run K H M E v (aheadOfP key f c root many) (fun a s' => ∀ H' x, Step M H H' → VaultAt K H' v s' M → x = .int a → Q x H') H', fun σ' H' wv => ⟨f, Nat.lt_succ_self _, wv⟩, ?_⟩
      refine ⟨_, rfl, _, rfl, _, rfl, v, root, c, rfl, r1.call fun n H2 x st r2 hN => ?_⟩
      obtain ⟨ni, no, a, x1, x2, rfl, ha, h1, h2⟩ := id hN
      have hk2 := hk.ext (r2.tups hM)
      refine ⟨_, rfl, a, _, _, _, rfl, rfl, SqT.of ha, atI_nat (j := 4) rfl, _, rfl, a, _, _, _, rfl, rfl, SqT.of ha, atI_nat (j := 2) rfl, ?_⟩
      refine ⟨_, rfl, a, _, _, _, rfl, rfl, SqT.of ha, atI_nat (j := 0) rfl, _, rfl, n.key, key, h1, hk2, Nat.le_trans no.1.depth (by decide), _, rfl, ite2 (fun c2 => ?_) (fun c2 => ?_)⟩
      · rw [if_pos (of_decide_eq_true c2)] at r2
        exact ⟨_, rfl, _, rfl, _, rfl, _, rfl, v, n.left, n.count, rfl, r2.call fun p H3 y st3 r3 e => by subst e; exact ⟨_, _, rfl, rfl, r3.ret rfl⟩⟩
      · rw [if_neg (fun z => c2 (decide_eq_true z))] at r2
        refine ⟨_, rfl, a, _, _, _, rfl, rfl, SqT.of ha, atI_nat (j := 0) rfl, _, rfl, x1, kv, n.key, key, rfl, h1, hk2, Nat.le_trans no.1.depth (by decide), fun H3 s3 => ⟨_, rfl, ?_⟩⟩
        have r3 := r2.same s3
        cases hah : ahead n.key key with
        | true =>
          rw [if_pos hah] at r3
          exact iteT ⟨_, rfl, a, _, _, _, rfl, rfl, SqT.of (s3 _ _ ha), atI_nat (j := 3) rfl, _, rfl, _, rfl, _, rfl, _, rfl, _, rfl, v, n.right, n.count, rfl, r3.call fun p H4 y st4 r4 e => by subst e; exact ⟨_, _, rfl, rfl, _, _, rfl, rfl, n.right, n.count, _, _, rfl, r4⟩⟩
        | false =>
          rw [if_neg (by rw [hah]; decide)] at r3
          exact iteF ⟨n.left, n.count, _, _, rfl, r3⟩
    · rw [if_pos (eq0 c1)] at r1
      exact ⟨_, rfl, r1.ret rfl⟩
def spCounted (K : PySem.W.Frag) : Sp := fun vs H Q E => ∃ v root kl kh low high, vs = [v, .int root, kl, kh] ∧ IsT H kl low ∧ IsT H kh high ∧ low.depth ≤ 6 ∧ high.depth ≤ 6 ∧ Does K H v (counted root low high) (fun _ x n => x = .int n) Q E
theorem fo_counted (T : Tx K mg) : Fo P w K mg base (L2.CX P w) 11 (ad K "counted") (spCounted K) := by
  have S : FnScope ["vault", "root", "low", "high", "first"] ["vault", "root", "low", "high"] (defScope (top 68)) := ⟨rfl, rfl, rfl, by decide +kernel, rfl, by decide +kernel, by decide +kernel⟩
  
  have F_is_empty : Fo P w K mg base CX0 10 (ad K "is_empty") spEmpty := fo_is_empty T
  have F_ahead_of : Fo P w K mg base (L2.CX P w) 10 (ad K "ahead_of") (spAheadOf K) := fo_ahead_of T
  have F_size : Fo P w K mg base (L2.CX P w) 4 (ad K "size") (spSize K) := fo_size T
  refine T.d_counted.ok S (fun _ _ _ _ _ _ us hl => match us, hl with | [_, _, _, _], _ => rfl) (fun vs H Q E h => by obtain ⟨v, root, kl, kh, low, high, rfl, _⟩ := h; rfl) (fun cdv A outer s H vs Q E hr_is_empty h => ?_)
  have hr_ahead_of := hr_is_empty
  have hr_size := hr_is_empty.mono (show 4 ≤ 10 by decide)
  refine ⟨_, (pss_cons (ps_if (pt_val (pe_fn F_is_empty hr_is_empty rfl T.b_is_empty.g pass0 (pa_cons (pv 2) (pa_cons (pv 3) pa_nil)))) (pss_one (ps_ret pe_int)) pss_nil) (pss_cons (ps_set (i := 4) S.nd rfl (Or.inl rfl) pe_int) (pss_cons (ps_if (pt_cmpR op_notN (pv 2) pe_non (nomark _)) (pss_one (ps_set (i := 4) S.nd rfl (Or.inl rfl) (pe_fn F_ahead_of hr_ahead_of rfl T.b_ahead_of.g passX (pa_cons (pv 0) (pa_cons (pv 1) (pa_cons (pv 2) pa_nil)))))) pss_nil) (pss_cons (ps_if (pt_cmpR op_isN (pv 3) pe_non (nomark _)) (pss_one (ps_ret (pe_op op_sub (pe_fn F_size hr_size rfl T.b_size.g passX (pa_cons (pv 0) (pa_cons (pv 1) pa_nil))) (pv 4)))) pss_nil) (pss_one (ps_ret (pe_op op_sub (pe_fn F_ahead_of hr_ahead_of rfl T.b_ahead_of.g passX (pa_cons (pv 0) (pa_cons (pv 1) (pa_cons (pv 3) pa_nil)))) (pv 4)))))))), ?_⟩
  obtain ⟨v, root, kl, kh, low, high, rfl, hl, hh, dl, dh, hD⟩ := h
  obtain ⟨M, hM, r⟩ := hD.start
  unfold counted at r
  refine ⟨_, rfl, _, rfl, kl, kh, low, high, rfl, hl, hh, dl, dh, fun H1 sm => ⟨_, rfl, ?_⟩⟩
  have r1 := r.same sm
  have hl1 := hl.same sm
  have hh1 := hh.same sm
  cases he : isEmpty low high with
  | true =>
    rw [if_pos he] at r1
    exact iteT (r1.ret rfl)
  | false =>
    rw [if_neg (by rw [he]; decide)] at r1
    refine iteF ⟨_, rfl, rfl, _, rfl, ite2 (fun c => ?_) (fun c => ?_)⟩
    · rw [dec_non hl1, none_dec] at c
      have c' : low ≠ .none := fun z => by rw [z] at c; simp at c
      rw [if_pos c'] at r1
      refine ⟨_, rfl, _, rfl, _, rfl, v, root, kl, low, rfl, hl1, r1.call fun p H2 x st2 r2 e => ?_⟩
      subst e
      have hh2 := hh.ext (r2.tups hM)
      refine ⟨_, rfl, rfl, _, rfl, ite2 (fun c => ?_) (fun c => ?_)⟩
      · rw [dec_non hh2] at c
        have c' : high = .none := of_decide_eq_true (by rw [← none_dec]; exact c)
        rw [if_pos c'] at r2
        exact ⟨_, rfl, _, rfl, v, root, rfl, r2.call fun q H3 y st3 r3 e => by subst e; exact ⟨_, rfl, _, _, rfl, rfl, r3.ret rfl⟩⟩
      · rw [dec_non hh2] at c
        have c' : ¬ high = .none := fun z => c (by rw [none_dec]; exact decide_eq_true z)
        rw [if_neg c'] at r2
        exact ⟨_, rfl, _, rfl, _, rfl, v, root, kh, high, rfl, hh2, r2.call fun q H3 y st3 r3 e => by subst e; exact ⟨_, rfl, _, _, rfl, rfl, r3.ret rfl⟩⟩
    · rw [dec_non hl1, none_dec] at c
      have c' : ¬ low ≠ .none := fun z => c (by rw [decide_eq_false z]; rfl)
      rw [if_neg c'] at r1
      simp only [Pg.bind] at r1
      have r2 := r1
      have hh2 := hh1
      refine ⟨_, rfl, rfl, _, rfl, ite2 (fun c => ?_) (fun c => ?_)⟩
      · rw [dec_non hh2] at c
        have c' : high = .none := of_decide_eq_true (by rw [← none_dec]; exact c)
        rw [if_pos c'] at r2
        exact ⟨_, rfl, _, rfl, v, root, rfl, r2.call fun q H3 y st3 r3 e => by subst e; exact ⟨_, rfl, _, _, rfl, rfl, r3.ret rfl⟩⟩
      · rw [dec_non hh2] at c
        have c' : ¬ high = .none := fun z => c (by rw [none_dec]; exact decide_eq_true z)
        rw [if_neg c'] at r2
        exact ⟨_, rfl, _, rfl, _, rfl, v, root, kh, high, rfl, hh2, r2.call fun q H3 y st3 r3 e => by subst e; exact ⟨_, rfl, _, _, rfl, rfl, r3.ret rfl⟩⟩
def spNth (K : PySem.W.Frag) : Sp := fun vs H Q E => ∃ v root number, vs = [v, .int root, .int number] ∧ Does K H v (nthW root number) IsT Q E
theorem fo_nth (T : Tx K mg) : Fo P w K mg base (L2.CX P w) 6 (ad K "nth") (spNth K) := by
  have S : FnScope ["vault", "root", "number", "count", "node", "many"] ["vault", "root", "number"] (defScope (top 69)) := ⟨rfl, rfl, rfl, by decide +kernel, rfl, by decide +kernel, by decide +kernel⟩
  obtain ⟨t_UNBOUND, h_UNBOUND⟩ := T.i_UNBOUND
  have F_node_beneath : Fo P w K mg base (L2.CX P w) 4 (ad K "node_beneath") (spNodeBeneath K) := fo_node_beneath T
  have F_size_beneath : Fo P w K mg base (L2.CX P w) 5 (ad K "size_beneath") (spSizeBeneath K) := fo_size_beneath T
  refine T.d_nth.ok S (fun _ _ _ _ _ _ us hl => match us, hl with | [_, _, _], _ => rfl) (fun vs H Q E h => by obtain ⟨v, root, number, rfl, _⟩ := h; rfl) (fun cdv A outer s H vs Q E hr_size_beneath h => ?_)
  have hr_node_beneath := hr_size_beneath.mono (show 4 ≤ 5 by decide)
  refine ⟨_, (pss_cons (ps_if (pt_cmpR op_lt (pv 2) pe_int (nomark _)) (pss_one (ps_ret pe_non)) pss_nil) (pss_cons (ps_set (i := 3) S.nd rfl (Or.inl rfl) (pe_glob (v := V.int 301) rfl h_UNBOUND ⟨_, rfl⟩)) (pss_cons (ps_while ownX (pt_cmpR op_ne (pv 1) pe_int (nomark _)) (pss_cons (ps_set (i := 4) S.nd rfl (Or.inl rfl) (pe_fn F_node_beneath hr_node_beneath rfl T.b_node_beneath.g passX (pa_cons (pv 0) (pa_cons (pv 1) (pa_cons (pv 3) pa_nil))))) (pss_cons (ps_set (i := 3) S.nd rfl (Or.inl rfl) (pe_ix ix_tup (pv 4) pe_int (fun _ _ => rfl))) (pss_cons (ps_set (i := 5) S.nd rfl (Or.inl rfl) (pe_fn F_size_beneath hr_size_beneath rfl T.b_size_beneath.g passX (pa_cons (pv 0) (pa_cons (pe_ix ix_tup (pv 4) pe_int (fun _ _ => rfl)) (pa_cons (pv 3) pa_nil))))) (pss_cons (ps_if (pt_cmpR op_eq (pv 2) (pv 5) (nomark _)) (pss_one (ps_ret (pe_tup (pa_cons (pe_ix ix_tup (pv 4) pe_int (fun _ _ => rfl)) (pa_cons (pe_ix ix_tup (pv 4) pe_int (fun _ _ => rfl)) pa_nil))))) pss_nil) (pss_cons (ps_set (i := 1) S.nd rfl (Or.inl rfl) (pe_ix ix_tup (pv 4) pe_int (fun _ _ => rfl))) (pss_one (ps_if (pt_cmpR op_gt (pv 2) (pv 5) (nomark _)) (pss_cons (ps_set (i := 1) S.nd rfl (Or.inl rfl) (pe_ix ix_tup (pv 4) pe_int (fun _ _ => rfl))) (pss_one (ps_aug (i := 2) S.nd rfl (Or.inl rfl) (pe_op op_add (pv 5) pe_int) ip_sub))) pss_nil)))))))) (pss_one (ps_ret pe_non))))), ?_⟩
  obtain ⟨v, root, number, rfl, hD⟩ := h
  obtain ⟨M, hM, r⟩ := hD.start
  unfold nthW at r
  refine ⟨_, rfl, _, _, rfl, rfl, _, rfl, ite2 (fun c1 => ?_) (fun c1 => ?_)⟩
  · rw [if_pos (of_decide_eq_true c1)] at r
    exact r.ret .non
  · rw [if_neg (fun z => c1 (decide_eq_true z))] at r
    refine ⟨fun f σ H' => ∃ root number c v4 v5, σ = [some v, some (.int root), some (.int number), some (.int c), v4, v5] ∧ Run K H M E v (nthP f c root number) (fun a s' => ∀ H' x, Step M H H' → VaultAt K H' v s' M → IsT H' x a → Q x H') H', ⟨302, root, number, 301, _, _, rfl, r⟩, ?_⟩
    rintro f σ H1 ⟨root, number, c, v4, v5, rfl, r1⟩
    cases f with
    | zero => exact r1.bad.elim
    | succ f =>
      unfold nthP at r1
      refine ⟨_, rfl, rfl, _, rfl, ite2 (fun c1 => ?_) (fun c1 => ?_)⟩
      · rw [if_neg (ne0 c1)] at r1
        refine ⟨fun σ' H' => ∃ root number c v4 v5, σ' = [some v, some (.int root), some (.int number), some (.int c), v4, v5] ∧ Run K H M E v (nthP f c root number) (fun a s' => ∀ H' x, Step M H H' → VaultAt K H' v s' M → IsT H' x a → Q x H') H', fun σ' H' wv => ⟨f, Nat.lt_succ_self _, wv⟩, ?_⟩
        refine ⟨_, rfl, _, rfl, _, rfl, v, root, c, rfl, r1.call fun n H2 x st r2 hN => ?_⟩
        obtain ⟨ni, no, a, x1, x2, rfl, ha, h1, h2⟩ := id hN
        refine ⟨_, rfl, a, _, _, _, rfl, rfl, SqT.of ha, atI_nat (j := 4) rfl, _, rfl, _, rfl, a, _, _, _, rfl, rfl, SqT.of ha, atI_nat (j := 2) rfl, _, rfl, v, n.left, n.count, rfl, r2.call fun p H3 y st3 r3 e => ?_⟩
        subst e
        have ha3 := st3.keep r2.dict ha (fun _ z => nomatch z)
        refine ⟨_, rfl, _, rfl, rfl, _, rfl, ite2 (fun c2 => ?_) (fun c2 => ?_)⟩
        · have e : number = p := by have := of_decide_eq_true c2; injection this
          rw [if_pos e] at r3
          refine ⟨_, rfl, a, _, _, _, rfl, rfl, SqT.of ha3, atI_nat (j := 0) rfl, _, rfl, a, _, _, _, rfl, rfl, SqT.of ha3, atI_nat (j := 1) rfl, ?_⟩
          refine ⟨by show 2 ≤ sizeLine; decide, fun q hq => ?_⟩
          have sm := same_put (o := .tup [x1, x2]) (Same.refl H3) hq
          exact (r3.same sm).ret (.tup upd_same (.cons ((h1.ext (st3.tups r2.dict)).same sm) (.cons ((h2.ext (st3.tups r2.dict)).same sm) .nil)))
        · have e : ¬ number = p := fun z => c2 (decide_eq_true (by rw [z]))
          rw [if_neg e] at r3
          refine ⟨_, rfl, a, _, _, _, rfl, rfl, SqT.of ha3, atI_nat (j := 2) rfl, ?_⟩
          refine ⟨_, rfl, _, rfl, _, _, rfl, rfl, _, rfl, ite2 (fun c3 => ?_) (fun c3 => ?_)⟩
          · rw [if_pos (of_decide_eq_true c3)] at r3
            exact ⟨_, rfl, a, _, _, _, rfl, rfl, SqT.of ha3, atI_nat (j := 3) rfl, _, rfl, _, rfl, _, _, rfl, rfl, _, _, rfl, rfl, n.right, number - (p + 1), n.count, _, _, rfl, r3⟩
          · rw [if_neg (fun z => c3 (decide_eq_true z))] at r3
            exact ⟨n.left, number, n.count, _, _, rfl, r3⟩
      · rw [if_pos (eq0 c1)] at r1
        exact r1.ret .non
end Wk
set_option Elab.async false
set_option linter.all false
set_option maxRecDepth 100000
set_option maxHeartbeats 4000000
/-! Trees: rebuilt, part. -/
namespace Wk
open PySem PySem.Spec PyProof.Rows L2 Pv Ph
variable {P : Program} {w : World} {K : PySem.W.Frag} {mg : Str → Option Value} {base : Heap}
/-! ### lists of nodes -/
theorem Paired.at' {α β : Type} {F : α → β → Prop} : ∀ {xs : List α} {ys : List β} {i : Nat} {x : α}, Paired F xs ys → xs[i]? = some x → ∃ y, ys[i]? = some y ∧ F x y
  | _, _, i, x, .nil, e => by simp at e
  | _, _, 0, x, .cons h t, e => by
    simp only [List.getElem?_cons_zero, Option.some.injEq] at e
    exact ⟨_, rfl, e ▸ h⟩
  | _, _, i + 1, x, .cons h t, e => by
    simp only [List.getElem?_cons_succ] at e
    obtain ⟨y, e1, h1⟩ := Paired.at' t e
    exact ⟨y, by simp only [List.getElem?_cons_succ]; exact e1, h1⟩
abbrev Nds (H : Hp) (xs : List V) (ns : List Nd) : Prop := Paired (fun x n => NdV H x n) xs ns
theorem Nds.ext {H H' : Hp} (e : Tups H H') {xs : List V} {ns : List Nd} (h : Nds H xs ns) : Nds H' xs ns := Paired.mapP h fun _ _ z => z.ext e
theorem rev_at {α : Type} {l : List α} {i : Nat} {x : α} (hi : i < l.length) (h : l[l.length - 1 - i]? = some x) : l.reverse.drop i = x :: l.reverse.drop (i + 1) := drop_at (by rw [List.getElem?_reverse hi]; exact h)
theorem rev_end {α : Type} {l : List α} {n : Nat} (h : n = l.length) : l.reverse.drop n = [] := by rw [h, ← List.length_reverse, List.drop_length]
section
variable {H0 H H1 H2 : Hp} {M Mx : List Addr} {E : XK} {v x : V} {s : VS} {α : Type} {Q : VK} {Qf : α → VS → Prop} {pg : Pg α}
theorem Run.layN {k : Int → Pg α} {x1 x2 : V} {kk ww : Th} {l rr c : Int} (r : Run K H0 M E v (.lay (node kk ww l rr c) k) Qf H) (V0 : VaultAt K H v s Mx) (h1 : IsT H x1 kk) (h2 : IsT H x2 ww) {p : Addr} (hp : H p = none)
    (q : ∀ n H1, Step M H H1 → Run K H0 M E v (k n) Qf H1 → Q (.int n) H1) : spLayS K s [v, .ref p] (upd H p (.tup [x1, x2, .int l, .int rr, .int c])) Q E := by
  have sm := same_put (o := .tup [x1, x2, .int l, .int rr, .int c]) (Same.refl H) hp
  refine (r.same sm).lay V0 (Same.insk sm) ?_ fun n H1 st r1 => q n H1 ((Step.of_same sm).trans st) r1
  exact .tup upd_same (.cons (h1.same sm) (.cons (h2.same sm) (.cons (.int _) (.cons (.int _) (.cons (.int _) .nil)))))
/-- a list of one's own, kept by a call -/
theorem Run.lst {p2 : Pg α} (r : Run K H0 M E v p2 Qf H) (st : Step M H H1) {b : Addr} {xs : List V} (e : H b = some (.lst xs)) : H1 b = some (.lst xs) := st.keep r.dict e (fun _ z => nomatch z)
theorem Run.put (r : Run K H0 M E v pg Qf H) {b : Addr} {xs ys : List V} (e : H b = some (.lst xs)) (f : H0 b = none) : Run K H0 M E v pg Qf (upd H b (.lst ys)) := r.keep (r.step.up (.inl f)) (Keeps.list e)
theorem Run.new (r : Run K H0 M E v pg Qf H) {b : Addr} (e : H b = none) : H0 b = none := r.step.free e fun d hd => by
  obtain ⟨kvs, q⟩ := r.dict d hd
  rw [q]
  exact fun z => nomatch z
end
/-! ### rebuilt -/
def spRebuilt (K : PySem.W.Frag) : Sp := fun vs H Q E => ∃ v wl xs ns kv key root more, vs = [v, .ref wl, kv, .int root, .int more] ∧ H wl = some (.lst xs) ∧ Nds H xs ns ∧ IsT H kv key ∧ key.depth ≤ 6 ∧ Does K H v (rebuilt key more ns.reverse root) (fun _ x n => x = .int n) Q E
theorem fo_rebuilt (T : Tx K mg) : Fo P w K mg base (L2.CX P w) 10 (ad K "rebuilt") (spRebuilt K) := by
  have S : FnScope ["vault", "way", "key", "root", "more", "node"] ["vault", "way", "key", "root", "more"] (defScope (top 72)) := ⟨rfl, rfl, rfl, by decide +kernel, rfl, by decide +kernel, by decide +kernel⟩
  
  have F_ahead : Fo P w K mg base CX0 9 (ad K "ahead") spAhead := fo_ahead T
  refine T.d_rebuilt.ok S (fun _ _ _ _ _ _ us hl => match us, hl with | [_, _, _, _, _], _ => rfl) (fun vs H Q E h => by obtain ⟨v, wl, xs, ns, kv, key, root, more, rfl, _⟩ := h; rfl) (fun cdv A outer s H vs Q E hr_ahead h => ?_)
  have hr8 := hr_ahead.mono (show 8 ≤ 9 by decide)
  refine ⟨_, (pss_cons (ps_for ownX rfl (RT.pi_revA rfl T.n_reversed (pv 1)) (pg_name (i := 5) S.nd rfl (Or.inl rfl)) (pss_one (ps_if (pt_val (pe_fn F_ahead hr_ahead rfl T.b_ahead.g pass0 (pa_cons (pv 2) (pa_cons (pe_ix ix_tup (pv 5) pe_int (fun _ _ => rfl)) pa_nil)))) (pss_one (ps_set (i := 3) S.nd rfl (Or.inl rfl) (pe_vlay T hr8 passX (pv 0) (pa_cons (pe_tup (pa_cons (pe_ix ix_tup (pv 5) pe_int (fun _ _ => rfl)) (pa_cons (pe_ix ix_tup (pv 5) pe_int (fun _ _ => rfl)) (pa_cons (pv 3) (pa_cons (pe_ix ix_tup (pv 5) pe_int (fun _ _ => rfl)) (pa_cons (pe_op op_add (pe_ix ix_tup (pv 5) pe_int (fun _ _ => rfl)) (pv 4)) pa_nil)))))) pa_nil)))) (pss_one (ps_set (i := 3) S.nd rfl (Or.inl rfl) (pe_vlay T hr8 passX (pv 0) (pa_cons (pe_tup (pa_cons (pe_ix ix_tup (pv 5) pe_int (fun _ _ => rfl)) (pa_cons (pe_ix ix_tup (pv 5) pe_int (fun _ _ => rfl)) (pa_cons (pe_ix ix_tup (pv 5) pe_int (fun _ _ => rfl)) (pa_cons (pv 3) (pa_cons (pe_op op_add (pe_ix ix_tup (pv 5) pe_int (fun _ _ => rfl)) (pv 4)) pa_nil)))))) pa_nil))))))) (pss_one (ps_ret (pv 3)))), ?_⟩
  obtain ⟨v, wl, xs, ns, kv, key, root, more, rfl, hw, hns, hk, dk, hD⟩ := h
  obtain ⟨M, hM, r⟩ := hD.start
  have hl := Paired.length hns
  refine ⟨_, rfl, wl, xs, rfl, .inl ⟨SqL.of hw, RT.for_Itv (xs := xs) (fun i σ H' => ∃ v5 root, σ = [some v, some (.ref wl), some kv, some (.int root), some (.int more), v5] ∧ H' wl = some (.lst xs) ∧ Nds H' xs ns ∧ IsT H' kv key ∧ Run K H M E v (rebuilt key more (ns.reverse.drop i) root) (fun a s' => ∀ H' x, Step M H H' → VaultAt K H' v s' M → x = .int a → Q x H') H') ⟨_, _, rfl, hw, hns, hk, by rw [List.drop_zero]; exact r⟩ ?_ ?_ ?_⟩⟩
  · rintro i σ H1 ⟨v5, root, rfl, hw1, _⟩
    exact SqL.of hw1
  · rintro i x σ H1 hi hx ⟨v5, root, rfl, hw1, hn1, hk1, r1⟩
    obtain ⟨n, hn, hN⟩ := Paired.at' hn1 hx
    rw [rev_at (by rw [← hl]; exact hi) (by rw [← hl]; exact hn)] at r1
    unfold rebuilt at r1
    obtain ⟨ni, no, a, x1, x2, rfl, ha, h1, h2⟩ := id hN
    refine ⟨_, rfl, _, rfl, a, _, _, _, rfl, rfl, SqT.of ha, atI_nat (j := 0) rfl, kv, x1, key, n.key, rfl, hk1, h1, dk, fun H2 s2 => ⟨_, rfl, ?_⟩⟩
    have r2 := r1.same s2
    have hw2 := s2 _ _ hw1
    have hn2 := hn1.ext (Keeps.of_same s2).tups
    have hk2 := hk1.same s2
    have ha := s2 _ _ ha
    have g1 := h1.same s2
    have g2 := h2.same s2
    obtain ⟨s, V2⟩ := r2.vault
    cases hah : ahead key n.key with
    | true =>
      rw [if_pos hah] at r2
      refine iteT ⟨_, _, s, fun Q' q => ⟨_, rfl, q⟩, V2, _, rfl, a, _, _, _, rfl, rfl, SqT.of ha, atI_nat (j := 0) rfl, _, rfl, a, _, _, _, rfl, rfl, SqT.of ha, atI_nat (j := 1) rfl, _, rfl, _, rfl, a, _, _, _, rfl, rfl, SqT.of ha, atI_nat (j := 3) rfl, _, rfl, a, _, _, _, rfl, rfl, SqT.of ha, atI_nat (j := 4) rfl, _, rfl, _, _, rfl, rfl, by show 5 ≤ sizeLine; decide, fun p hp => r2.layN V2 g1 g2 hp fun m H3 st3 r3 => ?_⟩
      exact ⟨_, _, rfl, r2.lst st3 hw2, hn2.ext (st3.tups r2.dict), hk2.ext (st3.tups r2.dict), r3⟩
    | false =>
      rw [if_neg (by rw [hah]; decide)] at r2
      refine iteF ⟨_, _, s, fun Q' q => ⟨_, rfl, q⟩, V2, _, rfl, a, _, _, _, rfl, rfl, SqT.of ha, atI_nat (j := 0) rfl, _, rfl, a, _, _, _, rfl, rfl, SqT.of ha, atI_nat (j := 1) rfl, _, rfl, a, _, _, _, rfl, rfl, SqT.of ha, atI_nat (j := 2) rfl, _, rfl, _, rfl, a, _, _, _, rfl, rfl, SqT.of ha, atI_nat (j := 4) rfl, _, rfl, _, _, rfl, rfl, by show 5 ≤ sizeLine; decide, fun p hp => r2.layN V2 g1 g2 hp fun m H3 st3 r3 => ?_⟩
      exact ⟨_, _, rfl, r2.lst st3 hw2, hn2.ext (st3.tups r2.dict), hk2.ext (st3.tups r2.dict), r3⟩
  · rintro σ H1 ⟨v5, root, rfl, hw1, hn1, hk1, r1⟩
    rw [rev_end hl] at r1
    exact ⟨_, rfl, r1.ret rfl⟩
end Wk
set_option Elab.async false
set_option linter.all false
set_option maxRecDepth 100000
set_option maxHeartbeats 4000000
/-! Trees: part, joined. -/
namespace Wk
open PySem PySem.Spec PyProof.Rows L2 Pv Ph
variable {P : Program} {w : World} {K : PySem.W.Frag} {mg : Str → Option Value} {base : Heap}
theorem bind_as {α β γ : Type} : ∀ (p : Pg α) (f : α → Pg β) (g : β → Pg γ), (p.bind f).bind g = p.bind fun a => (f a).bind g
  | .ret a, f, g => rfl
  | .bad, f, g => rfl
  | .thing n k, f, g => by show Pg.thing n _ = Pg.thing n _; congr 1; funext t; exact bind_as (k t) f g
  | .lay t k, f, g => by show Pg.lay t _ = Pg.lay t _; congr 1; funext n; exact bind_as (k n) f g
def spPart (K : PySem.W.Frag) : Sp := fun vs H Q E => ∃ v root kv key, vs = [v, .int root, kv] ∧ IsT H kv key ∧ Does K H v (partP root key) (fun H' x lr => ∃ p, x = .ref p ∧ H' p = some (.tup [.int lr.1, .int lr.2])) Q E
theorem fo_part (T : Tx K mg) : Fo P w K mg base (L2.CX P w) 10 (ad K "part") (spPart K) := by
  have S : FnScope ["vault", "root", "key", "way", "count", "node", "left", "right", "lesser", "greater", "beneath", "rest"] ["vault", "root", "key"] (defScope (top 70)) := ⟨rfl, rfl, rfl, by decide +kernel, rfl, by decide +kernel, by decide +kernel⟩
  obtain ⟨t_UNBOUND, h_UNBOUND⟩ := T.i_UNBOUND
  have F_node_beneath : Fo P w K mg base (L2.CX P w) 4 (ad K "node_beneath") (spNodeBeneath K) := fo_node_beneath T
  have F_ahead : Fo P w K mg base CX0 9 (ad K "ahead") spAhead := fo_ahead T
  refine T.d_part.ok S (fun _ _ _ _ _ _ us hl => match us, hl with | [_, _, _], _ => rfl) (fun vs H Q E h => by obtain ⟨v, root, kv, key, rfl, _⟩ := h; rfl) (fun cdv A outer s H vs Q E hr_ahead h => ?_)
  have hr8 := hr_ahead.mono (show 8 ≤ 9 by decide)
  have hr_node_beneath := hr_ahead.mono (show 4 ≤ 9 by decide)
  refine ⟨_, (pss_cons (ps_set (i := 3) S.nd rfl (Or.inl rfl) (pe_lst pa_nil)) (pss_cons (ps_set (i := 4) S.nd rfl (Or.inl rfl) (pe_glob (v := V.int 301) rfl h_UNBOUND ⟨_, rfl⟩)) (pss_cons (ps_while ownX (pt_cmpR op_ne (pv 1) pe_int (nomark _)) (pss_cons (ps_set (i := 5) S.nd rfl (Or.inl rfl) (pe_fn F_node_beneath hr_node_beneath rfl T.b_node_beneath.g passX (pa_cons (pv 0) (pa_cons (pv 1) (pa_cons (pv 4) pa_nil))))) (pss_cons (ps_expr (pe_bm PySem.F.plainAttrs_list PySem.F.slot_list_append PySem.F.type_list_append mt_append (pv 3) (pa_cons (pv 5) pa_nil))) (pss_cons (ps_set (i := 4) S.nd rfl (Or.inl rfl) (pe_ix ix_tup (pv 5) pe_int (fun _ _ => rfl))) (pss_cons (ps_set (i := 1) S.nd rfl (Or.inl rfl) (pe_ix ix_tup (pv 5) pe_int (fun _ _ => rfl))) (pss_one (ps_if (pt_val (pe_fn F_ahead hr_ahead rfl T.b_ahead.g pass0 (pa_cons (pe_ix ix_tup (pv 5) pe_int (fun _ _ => rfl)) (pa_cons (pv 2) pa_nil)))) (pss_one (ps_set (i := 1) S.nd rfl (Or.inl rfl) (pe_ix ix_tup (pv 5) pe_int (fun _ _ => rfl)))) pss_nil))))))) (pss_cons (ps_set (i := 6) S.nd rfl (Or.inl rfl) pe_int) (pss_cons (ps_set (i := 7) S.nd rfl (Or.inl rfl) pe_int) (pss_cons (ps_set (i := 8) S.nd rfl (Or.inl rfl) pe_int) (pss_cons (ps_set (i := 9) S.nd rfl (Or.inl rfl) pe_int) (pss_cons (ps_set (i := 10) S.nd rfl (Or.inl rfl) pe_int) (pss_cons (ps_for ownX rfl (RT.pi_revA rfl T.n_reversed (pv 3)) (pg_name (i := 5) S.nd rfl (Or.inl rfl)) (pss_cons (ps_set (i := 11) S.nd rfl (Or.inl rfl) (pe_op op_sub (pe_ix ix_tup (pv 5) pe_int (fun _ _ => rfl)) (pv 10))) (pss_cons (ps_set (i := 10) S.nd rfl (Or.inl rfl) (pe_ix ix_tup (pv 5) pe_int (fun _ _ => rfl))) (pss_one (ps_if (pt_val (pe_fn F_ahead hr_ahead rfl T.b_ahead.g pass0 (pa_cons (pe_ix ix_tup (pv 5) pe_int (fun _ _ => rfl)) (pa_cons (pv 2) pa_nil)))) (pss_cons (ps_aug (i := 8) S.nd rfl (Or.inl rfl) (pv 11) ip_add) (pss_one (ps_set (i := 6) S.nd rfl (Or.inl rfl) (pe_vlay T hr8 passX (pv 0) (pa_cons (pe_tup (pa_cons (pe_ix ix_tup (pv 5) pe_int (fun _ _ => rfl)) (pa_cons (pe_ix ix_tup (pv 5) pe_int (fun _ _ => rfl)) (pa_cons (pe_ix ix_tup (pv 5) pe_int (fun _ _ => rfl)) (pa_cons (pv 6) (pa_cons (pv 8) pa_nil)))))) pa_nil))))) (pss_cons (ps_aug (i := 9) S.nd rfl (Or.inl rfl) (pv 11) ip_add) (pss_one (ps_set (i := 7) S.nd rfl (Or.inl rfl) (pe_vlay T hr8 passX (pv 0) (pa_cons (pe_tup (pa_cons (pe_ix ix_tup (pv 5) pe_int (fun _ _ => rfl)) (pa_cons (pe_ix ix_tup (pv 5) pe_int (fun _ _ => rfl)) (pa_cons (pv 7) (pa_cons (pe_ix ix_tup (pv 5) pe_int (fun _ _ => rfl)) (pa_cons (pv 9) pa_nil)))))) pa_nil)))))))))) (pss_one (ps_ret (pe_tup (pa_cons (pv 6) (pa_cons (pv 7) pa_nil)))))))))))))), ?_⟩
  obtain ⟨v, root, kv, key, rfl, hk, hD⟩ := h
  obtain ⟨M, hM, r⟩ := hD.start
  unfold partP at r
  refine ⟨by show 0 ≤ sizeLine; decide, fun wl hwl => ?_⟩
  have fr : H wl = none := hwl
  have r' := r.keep (Step.up r.step (l := wl) (o := .lst []) (.inl fr)) (Keeps.of_same (same_put (Same.refl H) hwl))
  refine ⟨fun f σ H' => ∃ root c v5 xs ns, σ = [some v, some (.int root), some kv, some (.ref wl), some (.int c), v5, none, none, none, none, none, none] ∧ H' wl = some (.lst xs) ∧ Nds H' xs ns ∧ ns.length + f ≤ 302 ∧ Run K H M E v ((partWay key f c root ns).bind fun way => partUp key way.reverse 0 0 0 0 0) (fun lr s' => ∀ H' x, Step M H H' → VaultAt K H' v s' M → (∃ p, x = .ref p ∧ H' p = some (.tup [.int lr.1, .int lr.2])) → Q x H') H',
    ⟨302, root, 301, _, [], [], rfl, upd_same, .nil, Nat.le_refl _, r'⟩, ?_⟩
  rintro f σ H1 ⟨root, c, v5, xs, ns, rfl, hw1, hn1, hf, r1⟩
  cases f with
  | zero => exact r1.bad.elim
  | succ f =>
    have hl := Paired.length hn1
    unfold partWay at r1
    refine ⟨_, rfl, rfl, _, rfl, ite2 (fun c1 => ?_) (fun c1 => ?_)⟩
    · rw [if_neg (ne0 c1), bind_as] at r1
      refine ⟨fun σ H' => ∃ root c v5 xs ns, σ = [some v, some (.int root), some kv, some (.ref wl), some (.int c), v5, none, none, none, none, none, none] ∧ H' wl = some (.lst xs) ∧ Nds H' xs ns ∧ ns.length + f ≤ 302 ∧ Run K H M E v ((partWay key f c root ns).bind fun way => partUp key way.reverse 0 0 0 0 0) (fun lr s' => ∀ H' x, Step M H H' → VaultAt K H' v s' M → (∃ p, x = .ref p ∧ H' p = some (.tup [.int lr.1, .int lr.2])) → Q x H') H',
        fun σ' H' wv => ⟨f, Nat.lt_succ_self _, wv⟩, ?_⟩
      refine ⟨_, rfl, _, rfl, _, rfl, v, root, c, rfl, r1.call fun n H2 x st r2 hN => ?_⟩
      have hw2 := r1.lst st hw1
      have hn2 := hn1.ext (st.tups r1.dict)
      refine ⟨_, rfl, .inl ⟨rfl, _, SqL.of hw2⟩, _, rfl, wl, xs, _, rfl, rfl, hw2, Nat.lt_of_lt_of_le (show xs.length < 303 by omega) (by decide), ?_⟩
      have r3 := r2.put (ys := xs ++ [x]) hw2 fr
      have kp : Keeps H2 (upd H2 wl (.lst (xs ++ [x]))) := Keeps.list hw2
      have hN3 := hN.ext kp.tups
      have hn3 : Nds _ _ (ns ++ [n]) := Paired.snoc (hn2.ext kp.tups) hN3
      have hw3 : upd H2 wl (.lst (xs ++ [x])) wl = some (.lst (xs ++ [x])) := upd_same
      generalize upd H2 wl (.lst (xs ++ [x])) = H3 at r3 hN3 hn3 hw3 ⊢
      clear hN
      obtain ⟨ni, no, a, x1, x2, rfl, ha, h1, h2⟩ := id hN3
      have hk3 := hk.ext (r3.tups hM)
      refine ⟨_, rfl, a, _, _, _, rfl, rfl, SqT.of ha, atI_nat (j := 4) rfl, _, rfl, a, _, _, _, rfl, rfl, SqT.of ha, atI_nat (j := 2) rfl, ?_⟩
      refine ⟨_, rfl, a, _, _, _, rfl, rfl, SqT.of ha, atI_nat (j := 0) rfl, _, rfl, x1, kv, n.key, key, rfl, h1, hk3, Nat.le_trans no.1.depth (by decide), fun H4 s4 => ⟨_, rfl, ?_⟩⟩
      have r4 := r3.same s4
      have hl3 : (ns ++ [n]).length + f ≤ 302 := by rw [List.length_append, List.length_singleton]; omega
      have hn4 := hn3.ext (Keeps.of_same s4).tups
      cases hah : ahead n.key key with
      | true =>
        rw [if_pos hah] at r4
        exact iteT ⟨_, rfl, a, _, _, _, rfl, rfl, SqT.of (s4 _ _ ha), atI_nat (j := 3) rfl, n.right, n.count, _, _, _, rfl, s4 _ _ hw3, hn4, hl3, r4⟩
      | false =>
        rw [if_neg (by rw [hah]; decide)] at r4
        exact iteF ⟨n.left, n.count, _, _, _, rfl, s4 _ _ hw3, hn4, hl3, r4⟩
    · rw [if_pos (eq0 c1)] at r1
      have r1 : Run K H M E v (partUp key ns.reverse 0 0 0 0 0) _ H1 := r1
      refine ⟨_, rfl, wl, xs, rfl, .inl ⟨SqL.of hw1, RT.for_Itv (xs := xs) (fun i σ H' => ∃ (v5 v11 : Option V) (left right lesser greater beneath : Int), σ = [some v, some (.int root), some kv, some (.ref wl), some (.int c), v5, some (.int left), some (.int right), some (.int lesser), some (.int greater), some (.int beneath), v11] ∧ H' wl = some (.lst xs) ∧ Nds H' xs ns ∧ IsT H' kv key ∧ Run K H M E v (partUp key (ns.reverse.drop i) left right lesser greater beneath) (fun lr s' => ∀ H' x, Step M H H' → VaultAt K H' v s' M → (∃ p, x = .ref p ∧ H' p = some (.tup [.int lr.1, .int lr.2])) → Q x H') H')
        ⟨_, _, _, _, _, _, _, rfl, hw1, hn1, hk.ext (r1.tups hM), by rw [List.drop_zero]; exact r1⟩ ?_ ?_ ?_⟩⟩
      · rintro i σ H1 ⟨v5, v11, left, right, lesser, greater, beneath, rfl, hw1, _⟩
        exact SqL.of hw1
      · rintro i x σ H1 hi hx ⟨v5, v11, left, right, lesser, greater, beneath, rfl, hw1, hn1, hk1, r1⟩
        obtain ⟨n, hn, hN⟩ := Paired.at' hn1 hx
        rw [rev_at (by rw [← hl]; exact hi) (by rw [← hl]; exact hn)] at r1
        unfold partUp at r1
        obtain ⟨ni, no, a, x1, x2, rfl, ha, h1, h2⟩ := id hN
        refine ⟨_, rfl, a, _, _, _, rfl, rfl, SqT.of ha, atI_nat (j := 4) rfl, _, rfl, _, _, rfl, rfl, _, rfl, a, _, _, _, rfl, rfl, SqT.of ha, atI_nat (j := 4) rfl, ?_⟩
        refine ⟨_, rfl, a, _, _, _, rfl, rfl, SqT.of ha, atI_nat (j := 0) rfl, _, rfl, x1, kv, n.key, key, rfl, h1, hk1, Nat.le_trans no.1.depth (by decide), fun H2 s2 => ⟨_, rfl, ?_⟩⟩
        have r2 := r1.same s2
        have hw2 := s2 _ _ hw1
        have hn2 := hn1.ext (Keeps.of_same s2).tups
        have hk2 := hk1.same s2
        have ha := s2 _ _ ha
        have g1 := h1.same s2
        have g2 := h2.same s2
        obtain ⟨s, V2⟩ := r2.vault
        cases hah : ahead n.key key with
        | true =>
          rw [if_pos hah] at r2
          refine iteT ⟨_, rfl, _, rfl, _, _, rfl, rfl, _, _, s, fun Q' q => ⟨_, rfl, q⟩, V2, _, rfl, a, _, _, _, rfl, rfl, SqT.of ha, atI_nat (j := 0) rfl, _, rfl, a, _, _, _, rfl, rfl, SqT.of ha, atI_nat (j := 1) rfl, _, rfl, a, _, _, _, rfl, rfl, SqT.of ha, atI_nat (j := 2) rfl, _, rfl, _, rfl, by show 5 ≤ sizeLine; decide, fun p hp => r2.layN V2 g1 g2 hp fun m H3 st3 r3 => ?_⟩
          exact ⟨_, _, _, _, _, _, _, rfl, r2.lst st3 hw2, hn2.ext (st3.tups r2.dict), hk2.ext (st3.tups r2.dict), r3⟩
        | false =>
          rw [if_neg (by rw [hah]; decide)] at r2
          refine iteF ⟨_, rfl, _, rfl, _, _, rfl, rfl, _, _, s, fun Q' q => ⟨_, rfl, q⟩, V2, _, rfl, a, _, _, _, rfl, rfl, SqT.of ha, atI_nat (j := 0) rfl, _, rfl, a, _, _, _, rfl, rfl, SqT.of ha, atI_nat (j := 1) rfl, _, rfl, _, rfl, a, _, _, _, rfl, rfl, SqT.of ha, atI_nat (j := 3) rfl, _, rfl, by show 5 ≤ sizeLine; decide, fun p hp => r2.layN V2 g1 g2 hp fun m H3 st3 r3 => ?_⟩
          exact ⟨_, _, _, _, _, _, _, rfl, r2.lst st3 hw2, hn2.ext (st3.tups r2.dict), hk2.ext (st3.tups r2.dict), r3⟩
      · rintro σ H1 ⟨v5, v11, left, right, lesser, greater, beneath, rfl, hw1, hn1, hk1, r1⟩
        rw [rev_end hl] at r1
        refine ⟨_, rfl, _, rfl, by show 2 ≤ sizeLine; decide, fun p hp => ?_⟩
        exact (r1.same (same_put (o := .tup [.int left, .int right]) (Same.refl H1) hp)).ret ⟨p, rfl, upd_same⟩
def spJoined (K : PySem.W.Frag) : Sp := fun vs H Q E => ∃ v left right most, vs = [v, .int left, .int right, .int most] ∧ Does K H v (joined left right most) (fun _ x n => x = .int n) Q E
def Jn (H : Hp) (x : V) (e : Nd × Bool × Int) : Prop := ∃ p y, x = .ref p ∧ H p = some (.tup [y, .bl e.2.1, .int e.2.2]) ∧ NdV H y e.1
theorem Jn.ext {H H' : Hp} (t : Tups H H') {x : V} {e : Nd × Bool × Int} (h : Jn H x e) : Jn H' x e := by
  obtain ⟨p, y, rfl, hp, hN⟩ := h
  exact ⟨p, y, rfl, t _ _ hp, hN.ext t⟩
theorem Jns.ext {H H' : Hp} (t : Tups H H') {xs : List V} {es : List (Nd × Bool × Int)} (h : Paired (Jn H) xs es) : Paired (Jn H') xs es := Paired.mapP h fun _ _ z => z.ext t
theorem fo_joined (T : Tx K mg) : Fo P w K mg base (L2.CX P w) 11 (ad K "joined") (spJoined K) := by
  have S : FnScope ["vault", "left", "right", "most", "way", "one", "other", "first", "second", "both", "root", "node", "is_first"] ["vault", "left", "right", "most"] (defScope (top 71)) := ⟨rfl, rfl, rfl, by decide +kernel, rfl, by decide +kernel, by decide +kernel⟩
  
  have F_node_beneath : Fo P w K mg base (L2.CX P w) 4 (ad K "node_beneath") (spNodeBeneath K) := fo_node_beneath T
  have F_above : Fo P w K mg base CX0 10 (ad K "above") spAbove := fo_above T
  refine T.d_joined.ok S (fun _ _ _ _ _ _ us hl => match us, hl with | [_, _, _, _], _ => rfl) (fun vs H Q E h => by obtain ⟨v, left, right, most, rfl, _⟩ := h; rfl) (fun cdv A outer s H vs Q E hr_above h => ?_)
  have hr8 := hr_above.mono (show 8 ≤ 10 by decide)
  have hr_node_beneath := hr_above.mono (show 4 ≤ 10 by decide)
  refine ⟨_, (pss_cons (ps_set (i := 4) S.nd rfl (Or.inl rfl) (pe_lst pa_nil)) (pss_cons (ps_set (i := 5) S.nd rfl (Or.inl rfl) (pv 3)) (pss_cons (ps_set (i := 6) S.nd rfl (Or.inl rfl) (pv 3)) (pss_cons (ps_while ownX (PW.pt (pw_and (pt_cmpR op_ne (pv 1) pe_int (nomark _)) (pw_and1 (pt_cmpR op_ne (pv 2) pe_int (nomark _))))) (pss_cons (ps_set (i := 7) S.nd rfl (Or.inl rfl) (pe_fn F_node_beneath hr_node_beneath rfl T.b_node_beneath.g passX (pa_cons (pv 0) (pa_cons (pv 1) (pa_cons (pv 5) pa_nil))))) (pss_cons (ps_set (i := 8) S.nd rfl (Or.inl rfl) (pe_fn F_node_beneath hr_node_beneath rfl T.b_node_beneath.g passX (pa_cons (pv 0) (pa_cons (pv 2) (pa_cons (pv 6) pa_nil))))) (pss_cons (ps_set (i := 9) S.nd rfl (Or.inl rfl) (pe_op op_add (pe_ix ix_tup (pv 7) pe_int (fun _ _ => rfl)) (pe_ix ix_tup (pv 8) pe_int (fun _ _ => rfl)))) (pss_one (ps_if (pt_val (pe_fn F_above hr_above rfl T.b_above.g pass0 (pa_cons (pe_ix ix_tup (pv 7) pe_int (fun _ _ => rfl)) (pa_cons (pe_ix ix_tup (pv 8) pe_int (fun _ _ => rfl)) pa_nil)))) (pss_cons (ps_expr (pe_bm PySem.F.plainAttrs_list PySem.F.slot_list_append PySem.F.type_list_append mt_append (pv 4) (pa_cons (pe_tup (pa_cons (pv 7) (pa_cons pe_bl (pa_cons (pv 9) pa_nil)))) pa_nil))) (pss_cons (ps_set (i := 5) S.nd rfl (Or.inl rfl) (pe_ix ix_tup (pv 7) pe_int (fun _ _ => rfl))) (pss_one (ps_set (i := 1) S.nd rfl (Or.inl rfl) (pe_ix ix_tup (pv 7) pe_int (fun _ _ => rfl)))))) (pss_cons (ps_expr (pe_bm PySem.F.plainAttrs_list PySem.F.slot_list_append PySem.F.type_list_append mt_append (pv 4) (pa_cons (pe_tup (pa_cons (pv 8) (pa_cons pe_bl (pa_cons (pv 9) pa_nil)))) pa_nil))) (pss_cons (ps_set (i := 6) S.nd rfl (Or.inl rfl) (pe_ix ix_tup (pv 8) pe_int (fun _ _ => rfl))) (pss_one (ps_set (i := 2) S.nd rfl (Or.inl rfl) (pe_ix ix_tup (pv 8) pe_int (fun _ _ => rfl)))))))))))) (pss_cons (ps_set (i := 10) S.nd rfl (Or.inl rfl) (pv 1)) (pss_cons (ps_if (pt_cmpR op_eq (pv 1) pe_int (nomark _)) (pss_one (ps_set (i := 10) S.nd rfl (Or.inl rfl) (pv 2))) pss_nil) (pss_cons (ps_for ownX rfl (RT.pi_revA rfl T.n_reversed (pv 4)) (pg_tup rfl (pgs_cons (pg_name (i := 11) S.nd rfl (Or.inl rfl)) (pgs_cons (pg_name (i := 12) S.nd rfl (Or.inl rfl)) (pgs_cons (pg_name (i := 9) S.nd rfl (Or.inl rfl)) pgs_nil)))) (pss_one (ps_if (pt_val (pv 12)) (pss_one (ps_set (i := 10) S.nd rfl (Or.inl rfl) (pe_vlay T hr8 passX (pv 0) (pa_cons (pe_tup (pa_cons (pe_ix ix_tup (pv 11) pe_int (fun _ _ => rfl)) (pa_cons (pe_ix ix_tup (pv 11) pe_int (fun _ _ => rfl)) (pa_cons (pe_ix ix_tup (pv 11) pe_int (fun _ _ => rfl)) (pa_cons (pv 10) (pa_cons (pv 9) pa_nil)))))) pa_nil)))) (pss_one (ps_set (i := 10) S.nd rfl (Or.inl rfl) (pe_vlay T hr8 passX (pv 0) (pa_cons (pe_tup (pa_cons (pe_ix ix_tup (pv 11) pe_int (fun _ _ => rfl)) (pa_cons (pe_ix ix_tup (pv 11) pe_int (fun _ _ => rfl)) (pa_cons (pv 10) (pa_cons (pe_ix ix_tup (pv 11) pe_int (fun _ _ => rfl)) (pa_cons (pv 9) pa_nil)))))) pa_nil))))))) (pss_one (ps_ret (pv 10)))))))))), ?_⟩
  obtain ⟨v, left, right, most, rfl, hD⟩ := h
  obtain ⟨M, hM, r⟩ := hD.start
  unfold joined at r
  refine ⟨by show 0 ≤ sizeLine; decide, fun wl hwl => ?_⟩
  have fr : H wl = none := hwl
  have r' := r.keep (Step.up r.step (l := wl) (o := .lst []) (.inl fr)) (Keeps.of_same (same_put (Same.refl H) hwl))
  refine ⟨_, rfl, _, rfl, fun f σ H' => ∃ left right one other v7 v8 v9 xs es, σ = [some v, some (.int left), some (.int right), some (.int most), some (.ref wl), some (.int one), some (.int other), v7, v8, v9, none, none, none] ∧ H' wl = some (.lst xs) ∧ Paired (Jn H') xs es ∧ es.length + f ≤ 700 ∧ Run K H M E v ((joinWay f one other left right es).bind fun q => joinUp q.2.reverse q.1) (fun n s' => ∀ H' x, Step M H H' → VaultAt K H' v s' M → x = .int n → Q x H') H',
    ⟨700, left, right, most, most, _, _, _, [], [], rfl, upd_same, .nil, Nat.le_refl _, r'⟩, ?_⟩
  rintro f σ H1 ⟨left, right, one, other, v7, v8, v9, xs, es, rfl, hw1, hn1, hf, r1⟩
  cases f with
  | zero => exact r1.bad.elim
  | succ f =>
    have hl := Paired.length hn1
    unfold joinWay at r1
    -- the way up
    have up : ∀ (root : Int), root = (if left = 0 then right else left) → (left = 0 ∨ right = 0) → ∀ H1', H1' = H1 → Run K H M E v (joinUp es.reverse root) (fun n s' => ∀ H' x, Step M H H' → VaultAt K H' v s' M → x = .int n → Q x H') H1' := fun root e1 e2 H1' e3 => by
      subst e3
      by_cases c1 : left = 0
      · rw [if_pos c1] at r1 e1
        rw [e1]
        exact r1
      · rw [if_neg c1] at r1 e1
        have c2 : right = 0 := e2.resolve_left c1
        rw [if_pos c2] at r1
        rw [e1]
        exact r1
    refine (fun (fin : (left = 0 ∨ right = 0) → _) => ⟨_, rfl, rfl, _, rfl, ite2 (fun c1 => ⟨_, rfl, rfl, _, rfl, ite2 (fun c2 => ?loop) (fun c2 => fin (.inr (eq0 c2)))⟩) (fun c1 => iteF (fin (.inl (eq0 c1))))⟩) (fun hz => ?fin)
    case loop =>
      clear fin up
      rw [if_neg (ne0 c1), if_neg (ne0 c2), bind_as] at r1
      refine ⟨fun σ H' => ∃ left right one other v7 v8 v9 xs es, σ = [some v, some (.int left), some (.int right), some (.int most), some (.ref wl), some (.int one), some (.int other), v7, v8, v9, none, none, none] ∧ H' wl = some (.lst xs) ∧ Paired (Jn H') xs es ∧ es.length + f ≤ 700 ∧ Run K H M E v ((joinWay f one other left right es).bind fun q => joinUp q.2.reverse q.1) (fun n s' => ∀ H' x, Step M H H' → VaultAt K H' v s' M → x = .int n → Q x H') H',
        fun σ' H' wv => ⟨f, Nat.lt_succ_self _, wv⟩, ?_⟩
      refine ⟨_, rfl, _, rfl, _, rfl, v, left, one, rfl, r1.call fun n H2 x st r2 hN => ?_⟩
      have hw2 := r1.lst st hw1
      have hn2 := Jns.ext (st.tups r1.dict) hn1
      rw [bind_as] at r2
      refine ⟨_, rfl, _, rfl, _, rfl, v, right, other, rfl, r2.call fun m H3 y st3 r3 hN' => ?_⟩
      have hw3 := r2.lst st3 hw2
      have hn3 := Jns.ext (st3.tups r2.dict) hn2
      have hN3 := hN.ext (st3.tups r2.dict)
      obtain ⟨ni, no, a, x1, x2, rfl, ha, h1, h2⟩ := id hN3
      obtain ⟨mi, mo, b, y1, y2, rfl, hb, g1, g2⟩ := id hN'
      refine ⟨_, rfl, a, _, _, _, rfl, rfl, SqT.of ha, atI_nat (j := 4) rfl, _, rfl, b, _, _, _, rfl, rfl, SqT.of hb, atI_nat (j := 4) rfl, _, _, rfl, rfl, ?_⟩
      refine ⟨_, rfl, a, _, _, _, rfl, rfl, SqT.of ha, atI_nat (j := 0) rfl, _, rfl, b, _, _, _, rfl, rfl, SqT.of hb, atI_nat (j := 0) rfl, x1, y1, n.key, m.key, rfl, h1, g1, no.1, mo.1, fun H4 s4 => ⟨_, rfl, ?_⟩⟩
      have r4 := r3.same s4
      have hw4 := s4 _ _ hw3
      have hn4 := Jns.ext (Keeps.of_same s4).tups hn3
      have hN4 := hN3.ext (Keeps.of_same s4).tups
      have hM4 := hN'.ext (Keeps.of_same s4).tups
      have ha := s4 _ _ ha
      have hb := s4 _ _ hb
      have put : ∀ (e : Nd × Bool × Int) (z : V) (p : Addr), H4 p = none → NdV H4 z e.1 → ∀ H6, H6 = upd (upd H4 p (.tup [z, .bl e.2.1, .int e.2.2])) wl (.lst (xs ++ [.ref p])) →
          H6 wl = some (.lst (xs ++ [.ref p])) ∧ Paired (Jn H6) (xs ++ [.ref p]) (es ++ [e]) ∧ (es ++ [e]).length + f ≤ 700 ∧ Keeps H4 H6 ∧ Step M H H6 := fun e z p hp hz H6 eH => by
        have s5 := same_put (o := .tup [z, .bl e.2.1, .int e.2.2]) (Same.refl H4) hp
        have hw5 := s5 _ _ hw4
        have kp : Keeps _ (upd (upd H4 p (.tup [z, .bl e.2.1, .int e.2.2])) wl (.lst (xs ++ [.ref p]))) := Keeps.list hw5
        rw [eH]
        refine ⟨upd_same, ?_, by rw [List.length_append, List.length_singleton]; omega, (Keeps.of_same s5).trans kp, (r4.same s5).step.up (.inl fr)⟩
        exact Paired.snoc (Jns.ext ((Keeps.of_same s5).trans kp).tups hn4) ⟨p, z, rfl, kp _ _ upd_same (fun z => z), hz.ext ((Keeps.of_same s5).trans kp).tups⟩
      have hw5 : ∀ (p : Addr) (o : HO), H4 p = none → (upd H4 p o) wl = some (.lst xs) := fun p o hp => same_put (Same.refl H4) hp _ _ hw4
      cases hah : above n.key m.key with
      | true =>
        rw [if_pos hah] at r4
        refine iteT ⟨_, rfl, .inl ⟨rfl, _, SqL.of hw4⟩, _, rfl, _, rfl, by show 3 ≤ sizeLine; decide, fun p hp => ⟨wl, xs, _, rfl, rfl, hw5 p _ hp, Nat.lt_of_lt_of_le (show xs.length < 703 by omega) (by decide), ?_⟩⟩
        obtain ⟨q1, q2, q3, q4, q5⟩ := put (n, true, n.count + m.count) _ p hp hN4 _ rfl
        refine ⟨_, rfl, a, _, _, _, rfl, rfl, SqT.of (q4 _ _ ha fun z => z), atI_nat (j := 4) rfl, _, rfl, a, _, _, _, rfl, rfl, SqT.of (q4 _ _ ha fun z => z), atI_nat (j := 3) rfl, n.right, right, n.count, other, _, _, _, _, _, rfl, q1, q2, q3, r4.keep q5 q4⟩
      | false =>
        rw [if_neg (by rw [hah]; decide)] at r4
        refine iteF ⟨_, rfl, .inl ⟨rfl, _, SqL.of hw4⟩, _, rfl, _, rfl, by show 3 ≤ sizeLine; decide, fun p hp => ⟨wl, xs, _, rfl, rfl, hw5 p _ hp, Nat.lt_of_lt_of_le (show xs.length < 703 by omega) (by decide), ?_⟩⟩
        obtain ⟨q1, q2, q3, q4, q5⟩ := put (m, false, n.count + m.count) _ p hp hM4 _ rfl
        refine ⟨_, rfl, b, _, _, _, rfl, rfl, SqT.of (q4 _ _ hb fun z => z), atI_nat (j := 4) rfl, _, rfl, b, _, _, _, rfl, rfl, SqT.of (q4 _ _ hb fun z => z), atI_nat (j := 2) rfl, left, m.left, one, m.count, _, _, _, _, _, rfl, q1, q2, q3, r4.keep q5 q4⟩
    case fin =>
      refine ⟨_, rfl, _, rfl, rfl, _, rfl, ite2 (fun c1 => ⟨_, rfl, ?_⟩) (fun c1 => ?_)⟩
      · have r2 := up right (if_pos (by have := of_decide_eq_true c1; injection this)).symm hz H1 rfl
        refine ⟨_, rfl, wl, xs, rfl, .inl ⟨SqL.of hw1, RT.for_Itv (xs := xs) (fun i σ H' => ∃ (v9 v11 v12 : Option V) (root : Int), σ = [some v, some (.int left), some (.int right), some (.int most), some (.ref wl), some (.int one), some (.int other), v7, v8, v9, some (.int root), v11, v12] ∧ H' wl = some (.lst xs) ∧ Paired (Jn H') xs es ∧ Run K H M E v (joinUp (es.reverse.drop i) root) (fun n s' => ∀ H' x, Step M H H' → VaultAt K H' v s' M → x = .int n → Q x H') H')
          ⟨_, _, _, _, rfl, hw1, hn1, by rw [List.drop_zero]; exact r2⟩ ?_ ?_ ?_⟩⟩
        · rintro i σ H1 ⟨v9, v11, v12, root, rfl, hw1, _⟩
          exact SqL.of hw1
        · rintro i x σ H1 hi hx ⟨v9, v11, v12, root, rfl, hw1, hn1, r1⟩
          obtain ⟨⟨n, bl, cn⟩, hn, p0, y, rfl, hp0, hN⟩ := Paired.at' hn1 hx
          rw [rev_at (by rw [← hl]; exact hi) (by rw [← hl]; exact hn)] at r1
          obtain ⟨ni, no, a, x1, x2, rfl, ha, h1, h2⟩ := id hN
          obtain ⟨s, V2⟩ := r1.vault
          refine ⟨p0, _, rfl, SqT.of hp0, rfl, _, _, rfl, _, _, rfl, _, _, rfl, rfl, _, rfl, ?_⟩
          cases bl with
          | true =>
            refine ⟨_, rfl, iteT ⟨_, _, s, fun Q' q => ⟨_, rfl, q⟩, V2, _, rfl, a, _, _, _, rfl, rfl, SqT.of ha, atI_nat (j := 0) rfl, _, rfl, a, _, _, _, rfl, rfl, SqT.of ha, atI_nat (j := 1) rfl, _, rfl, a, _, _, _, rfl, rfl, SqT.of ha, atI_nat (j := 2) rfl, _, rfl, _, rfl, by show 5 ≤ sizeLine; decide, fun p hp => r1.layN V2 h1 h2 hp fun m H3 st3 r3 => ?_⟩⟩
            exact ⟨_, _, _, _, rfl, r1.lst st3 hw1, Jns.ext (st3.tups r1.dict) hn1, r3⟩
          | false =>
            refine ⟨_, rfl, iteF ⟨_, _, s, fun Q' q => ⟨_, rfl, q⟩, V2, _, rfl, a, _, _, _, rfl, rfl, SqT.of ha, atI_nat (j := 0) rfl, _, rfl, a, _, _, _, rfl, rfl, SqT.of ha, atI_nat (j := 1) rfl, _, rfl, _, rfl, a, _, _, _, rfl, rfl, SqT.of ha, atI_nat (j := 3) rfl, _, rfl, by show 5 ≤ sizeLine; decide, fun p hp => r1.layN V2 h1 h2 hp fun m H3 st3 r3 => ?_⟩⟩
            exact ⟨_, _, _, _, rfl, r1.lst st3 hw1, Jns.ext (st3.tups r1.dict) hn1, r3⟩
        · rintro σ H1 ⟨v9, v11, v12, root, rfl, hw1, hn1, r1⟩
          rw [rev_end hl] at r1
          exact ⟨_, rfl, r1.ret rfl⟩
      · have r2 := up left (if_neg (fun z => c1 (decide_eq_true (by rw [z])))).symm hz H1 rfl
        refine ⟨_, rfl, wl, xs, rfl, .inl ⟨SqL.of hw1, RT.for_Itv (xs := xs) (fun i σ H' => ∃ (v9 v11 v12 : Option V) (root : Int), σ = [some v, some (.int left), some (.int right), some (.int most), some (.ref wl), some (.int one), some (.int other), v7, v8, v9, some (.int root), v11, v12] ∧ H' wl = some (.lst xs) ∧ Paired (Jn H') xs es ∧ Run K H M E v (joinUp (es.reverse.drop i) root) (fun n s' => ∀ H' x, Step M H H' → VaultAt K H' v s' M → x = .int n → Q x H') H')
          ⟨_, _, _, _, rfl, hw1, hn1, by rw [List.drop_zero]; exact r2⟩ ?_ ?_ ?_⟩⟩
        · rintro i σ H1 ⟨v9, v11, v12, root, rfl, hw1, _⟩
          exact SqL.of hw1
        · rintro i x σ H1 hi hx ⟨v9, v11, v12, root, rfl, hw1, hn1, r1⟩
          obtain ⟨⟨n, bl, cn⟩, hn, p0, y, rfl, hp0, hN⟩ := Paired.at' hn1 hx
          rw [rev_at (by rw [← hl]; exact hi) (by rw [← hl]; exact hn)] at r1
          obtain ⟨ni, no, a, x1, x2, rfl, ha, h1, h2⟩ := id hN
          obtain ⟨s, V2⟩ := r1.vault
          refine ⟨p0, _, rfl, SqT.of hp0, rfl, _, _, rfl, _, _, rfl, _, _, rfl, rfl, _, rfl, ?_⟩
          cases bl with
          | true =>
            refine ⟨_, rfl, iteT ⟨_, _, s, fun Q' q => ⟨_, rfl, q⟩, V2, _, rfl, a, _, _, _, rfl, rfl, SqT.of ha, atI_nat (j := 0) rfl, _, rfl, a, _, _, _, rfl, rfl, SqT.of ha, atI_nat (j := 1) rfl, _, rfl, a, _, _, _, rfl, rfl, SqT.of ha, atI_nat (j := 2) rfl, _, rfl, _, rfl, by show 5 ≤ sizeLine; decide, fun p hp => r1.layN V2 h1 h2 hp fun m H3 st3 r3 => ?_⟩⟩
            exact ⟨_, _, _, _, rfl, r1.lst st3 hw1, Jns.ext (st3.tups r1.dict) hn1, r3⟩
          | false =>
            refine ⟨_, rfl, iteF ⟨_, _, s, fun Q' q => ⟨_, rfl, q⟩, V2, _, rfl, a, _, _, _, rfl, rfl, SqT.of ha, atI_nat (j := 0) rfl, _, rfl, a, _, _, _, rfl, rfl, SqT.of ha, atI_nat (j := 1) rfl, _, rfl, _, rfl, a, _, _, _, rfl, rfl, SqT.of ha, atI_nat (j := 3) rfl, _, rfl, by show 5 ≤ sizeLine; decide, fun p hp => r1.layN V2 h1 h2 hp fun m H3 st3 r3 => ?_⟩⟩
            exact ⟨_, _, _, _, rfl, r1.lst st3 hw1, Jns.ext (st3.tups r1.dict) hn1, r3⟩
        · rintro σ H1 ⟨v9, v11, v12, root, rfl, hw1, hn1, r1⟩
          rw [rev_end hl] at r1
          exact ⟨_, rfl, r1.ret rfl⟩
end Wk
set_option Elab.async false
set_option linter.all false
set_option maxRecDepth 100000
set_option maxHeartbeats 4000000
/-! Trees: put, cut. -/
namespace Wk
open PySem PySem.Spec PyProof.Rows L2 Pv Ph
variable {P : Program} {w : World} {K : PySem.W.Frag} {mg : Str → Option Value} {base : Heap}
def spPut (K : PySem.W.Frag) : Sp := fun vs H Q E => ∃ v root kv kw key worth, vs = [v, .int root, kv, kw] ∧ IsT H kv key ∧ IsT H kw worth ∧ Ok 2 key ∧ Does K H v (putW root key worth) (fun _ x n => x = .int n) Q E
theorem fo_put (T : Tx K mg) : Fo P w K mg base (L2.CX P w) 11 (ad K "put") (spPut K) := by
  have S : FnScope ["vault", "root", "key", "worth", "way", "count", "node", "left", "right"] ["vault", "root", "key", "worth"] (defScope (top 73)) := ⟨rfl, rfl, rfl, by decide +kernel, rfl, by decide +kernel, by decide +kernel⟩
  obtain ⟨t_UNBOUND, h_UNBOUND⟩ := T.i_UNBOUND
  have F_node_beneath : Fo P w K mg base (L2.CX P w) 4 (ad K "node_beneath") (spNodeBeneath K) := fo_node_beneath T
  have F_ahead : Fo P w K mg base CX0 9 (ad K "ahead") spAhead := fo_ahead T
  have F_above : Fo P w K mg base CX0 10 (ad K "above") spAbove := fo_above T
  have F_part : Fo P w K mg base (L2.CX P w) 10 (ad K "part") (spPart K) := fo_part T
  have F_rebuilt : Fo P w K mg base (L2.CX P w) 10 (ad K "rebuilt") (spRebuilt K) := fo_rebuilt T
  refine T.d_put.ok S (fun _ _ _ _ _ _ us hl => match us, hl with | [_, _, _, _], _ => rfl) (fun vs H Q E h => by obtain ⟨v, root, kv, kw, key, worth, rfl, _⟩ := h; rfl) (fun cdv A outer s H vs Q E hr_above h => ?_)
  have hr_part := hr_above
  have hr_rebuilt := hr_above
  have hr8 := hr_above.mono (show 8 ≤ 10 by decide)
  have hr_ahead := hr_above.mono (show 9 ≤ 10 by decide)
  have hr_node_beneath := hr_above.mono (show 4 ≤ 10 by decide)
  have hu6 := hr_above.units
  refine ⟨_, (pss_cons (ps_set (i := 4) S.nd rfl (Or.inl rfl) (pe_lst pa_nil)) (pss_cons (ps_set (i := 5) S.nd rfl (Or.inl rfl) (pe_glob (v := V.int 301) rfl h_UNBOUND ⟨_, rfl⟩)) (pss_cons (ps_while ownX (pt_cmpR op_ne (pv 1) pe_int (nomark _)) (pss_cons (ps_set (i := 6) S.nd rfl (Or.inl rfl) (pe_fn F_node_beneath hr_node_beneath rfl T.b_node_beneath.g passX (pa_cons (pv 0) (pa_cons (pv 1) (pa_cons (pv 5) pa_nil))))) (pss_cons (ps_if (pt_cmpR (op_eqT hu6) (pe_ix ix_tup (pv 6) pe_int (fun _ _ => rfl)) (pv 2) (nomark _)) (pss_one (ps_ret (pe_fn F_rebuilt hr_rebuilt rfl T.b_rebuilt.g passX (pa_cons (pv 0) (pa_cons (pv 4) (pa_cons (pv 2) (pa_cons (pe_vlay T hr8 passX (pv 0) (pa_cons (pe_tup (pa_cons (pv 2) (pa_cons (pv 3) (pa_cons (pe_ix ix_tup (pv 6) pe_int (fun _ _ => rfl)) (pa_cons (pe_ix ix_tup (pv 6) pe_int (fun _ _ => rfl)) (pa_cons (pe_ix ix_tup (pv 6) pe_int (fun _ _ => rfl)) pa_nil)))))) pa_nil)) (pa_cons pe_int pa_nil)))))))) pss_nil) (pss_cons (ps_if (pt_val (pe_fn F_above hr_above rfl T.b_above.g pass0 (pa_cons (pv 2) (pa_cons (pe_ix ix_tup (pv 6) pe_int (fun _ _ => rfl)) pa_nil)))) (pss_cons (ps_asg (pe_fn F_part hr_part rfl T.b_part.g passX (pa_cons (pv 0) (pa_cons (pv 1) (pa_cons (pv 2) pa_nil)))) (pg_tup rfl (pgs_cons (pg_name (i := 7) S.nd rfl (Or.inl rfl)) (pgs_cons (pg_name (i := 8) S.nd rfl (Or.inl rfl)) pgs_nil)))) (pss_one (ps_ret (pe_fn F_rebuilt hr_rebuilt rfl T.b_rebuilt.g passX (pa_cons (pv 0) (pa_cons (pv 4) (pa_cons (pv 2) (pa_cons (pe_vlay T hr8 passX (pv 0) (pa_cons (pe_tup (pa_cons (pv 2) (pa_cons (pv 3) (pa_cons (pv 7) (pa_cons (pv 8) (pa_cons (pe_op op_add (pe_ix ix_tup (pv 6) pe_int (fun _ _ => rfl)) pe_int) pa_nil)))))) pa_nil)) (pa_cons pe_int pa_nil))))))))) pss_nil) (pss_cons (ps_expr (pe_bm PySem.F.plainAttrs_list PySem.F.slot_list_append PySem.F.type_list_append mt_append (pv 4) (pa_cons (pv 6) pa_nil))) (pss_cons (ps_set (i := 5) S.nd rfl (Or.inl rfl) (pe_ix ix_tup (pv 6) pe_int (fun _ _ => rfl))) (pss_cons (ps_set (i := 1) S.nd rfl (Or.inl rfl) (pe_ix ix_tup (pv 6) pe_int (fun _ _ => rfl))) (pss_one (ps_if (pt_val (pe_fn F_ahead hr_ahead rfl T.b_ahead.g pass0 (pa_cons (pv 2) (pa_cons (pe_ix ix_tup (pv 6) pe_int (fun _ _ => rfl)) pa_nil)))) (pss_one (ps_set (i := 1) S.nd rfl (Or.inl rfl) (pe_ix ix_tup (pv 6) pe_int (fun _ _ => rfl)))) pss_nil))))))))) (pss_one (ps_ret (pe_fn F_rebuilt hr_rebuilt rfl T.b_rebuilt.g passX (pa_cons (pv 0) (pa_cons (pv 4) (pa_cons (pv 2) (pa_cons (pe_vlay T hr8 passX (pv 0) (pa_cons (pe_tup (pa_cons (pv 2) (pa_cons (pv 3) (pa_cons pe_int (pa_cons pe_int (pa_cons pe_int pa_nil)))))) pa_nil)) (pa_cons pe_int pa_nil))))))))))), ?_⟩
  obtain ⟨v, root, kv, kw, key, worth, rfl, hk, hw, ok, hD⟩ := h
  have dk : key.depth ≤ 6 := Nat.le_trans ok.depth (by decide)
  obtain ⟨M, hM, r⟩ := hD.start
  unfold putW at r
  refine ⟨by show 0 ≤ sizeLine; decide, fun wl hwl => ?_⟩
  have fr : H wl = none := hwl
  have r' := r.keep (Step.up r.step (l := wl) (o := .lst []) (.inl fr)) (Keeps.of_same (same_put (Same.refl H) hwl))
  refine ⟨fun f σ H' => ∃ root c v6 xs ns, σ = [some v, some (.int root), some kv, some kw, some (.ref wl), some (.int c), v6, none, none] ∧ H' wl = some (.lst xs) ∧ Nds H' xs ns ∧ ns.length + f ≤ 302 ∧ Run K H M E v (putP key worth f c root ns) (fun n s' => ∀ H' x, Step M H H' → VaultAt K H' v s' M → x = .int n → Q x H') H',
    ⟨302, root, 301, _, [], [], rfl, upd_same, .nil, Nat.le_refl _, r'⟩, ?_⟩
  rintro f σ H1 ⟨root, c, v6, xs, ns, rfl, hw1, hn1, hf, r1⟩
  cases f with
  | zero => exact r1.bad.elim
  | succ f =>
    have hl := Paired.length hn1
    have hk1 := hk.ext (r1.tups hM)
    have hv1 := hw.ext (r1.tups hM)
    unfold putP at r1
    refine ⟨_, rfl, rfl, _, rfl, ite2 (fun c1 => ?_) (fun c1 => ?_)⟩
    · rw [if_neg (ne0 c1)] at r1
      refine ⟨fun σ H' => ∃ root c v6 xs ns, σ = [some v, some (.int root), some kv, some kw, some (.ref wl), some (.int c), v6, none, none] ∧ H' wl = some (.lst xs) ∧ Nds H' xs ns ∧ ns.length + f ≤ 302 ∧ Run K H M E v (putP key worth f c root ns) (fun n s' => ∀ H' x, Step M H H' → VaultAt K H' v s' M → x = .int n → Q x H') H',
        fun σ' H' wv => ⟨f, Nat.lt_succ_self _, wv⟩, ?_⟩
      refine ⟨_, rfl, _, rfl, _, rfl, v, root, c, rfl, r1.call fun n H2 x st r2 hN => ?_⟩
      have hw2 := r1.lst st hw1
      have hn2 := hn1.ext (st.tups r1.dict)
      have hk2 := hk.ext (r2.tups hM)
      have hv2 := hw.ext (r2.tups hM)
      obtain ⟨ni, no, a, x1, x2, rfl, ha, h1, h2⟩ := id hN
      refine ⟨_, rfl, a, _, _, _, rfl, rfl, SqT.of ha, atI_nat (j := 0) rfl, _, rfl, n.key, key, h1, hk2, Nat.le_trans no.1.depth (by decide), _, rfl, ite2 (fun c2 => ?_) (fun c2 => ?_)⟩
      · rw [if_pos (of_decide_eq_true c2)] at r2
        obtain ⟨s, V2⟩ := r2.vault
        refine ⟨_, rfl, _, rfl, _, rfl, _, _, s, fun Q' q => ⟨_, rfl, q⟩, V2, _, rfl, _, rfl, _, rfl, a, _, _, _, rfl, rfl, SqT.of ha, atI_nat (j := 2) rfl, _, rfl, a, _, _, _, rfl, rfl, SqT.of ha, atI_nat (j := 3) rfl, _, rfl, a, _, _, _, rfl, rfl, SqT.of ha, atI_nat (j := 4) rfl, by show 5 ≤ sizeLine; decide, fun p hp => r2.layN V2 hk2 hv2 hp fun m H3 st3 r3 => ?_⟩
        exact ⟨v, wl, xs, ns, kv, key, m, 0, rfl, r2.lst st3 hw2, hn2.ext (st3.tups r2.dict), hk2.ext (st3.tups r2.dict), dk, r3.tail fun q H4 y st4 r4 e => by subst e; exact r4.ret rfl⟩
      · rw [if_neg (fun z => c2 (decide_eq_true z))] at r2
        refine ⟨_, rfl, _, rfl, a, _, _, _, rfl, rfl, SqT.of ha, atI_nat (j := 0) rfl, kv, x1, key, n.key, rfl, hk2, h1, ok, no.1, fun H3 s3 => ⟨_, rfl, ?_⟩⟩
        have r3 := r2.same s3
        have hw3 := s3 _ _ hw2
        have hn3 := hn2.ext (Keeps.of_same s3).tups
        have hk3 := hk2.same s3
        have hv3 := hv2.same s3
        have ha := s3 _ _ ha
        have hN3 := hN.ext (Keeps.of_same s3).tups
        cases hab : above key n.key with
        | true =>
          rw [if_pos hab] at r3
          refine iteT ⟨_, rfl, _, rfl, _, rfl, v, root, kv, key, rfl, hk3, r3.call fun lr H4 y st4 r4 ⟨p4, ey, hp4⟩ => ?_⟩
          subst ey
          have ha := st4.keep r3.dict ha (fun _ z => nomatch z)
          have hw4 := r3.lst st4 hw3
          have hn4 := hn3.ext (st4.tups r3.dict)
          have hk4 := hk3.ext (st4.tups r3.dict)
          have hv4 := hv3.ext (st4.tups r3.dict)
          obtain ⟨s, V4⟩ := r4.vault
          refine ⟨p4, _, rfl, SqT.of hp4, rfl, _, _, rfl, _, _, rfl, rfl, ?_⟩
          refine ⟨_, rfl, _, rfl, _, rfl, _, _, s, fun Q' q => ⟨_, rfl, q⟩, V4, _, rfl, _, rfl, _, rfl, _, rfl, _, rfl, a, _, _, _, rfl, rfl, SqT.of ha, atI_nat (j := 4) rfl, _, _, rfl, rfl, by show 5 ≤ sizeLine; decide, fun p hp => r4.layN V4 hk4 hv4 hp fun m H5 st5 r5 => ?_⟩
          exact ⟨v, wl, xs, ns, kv, key, m, 1, rfl, r4.lst st5 hw4, hn4.ext (st5.tups r4.dict), hk4.ext (st5.tups r4.dict), dk, r5.tail fun q H6 y st6 r6 e => by subst e; exact r6.ret rfl⟩
        | false =>
          rw [if_neg (by rw [hab]; decide)] at r3
          refine iteF ⟨_, rfl, .inl ⟨rfl, _, SqL.of hw3⟩, _, rfl, wl, xs, _, rfl, rfl, hw3, Nat.lt_of_lt_of_le (show xs.length < 303 by omega) (by decide), ?_⟩
          have r4 := r3.put (ys := xs ++ [.ref a]) hw3 fr
          have kp : Keeps H3 (upd H3 wl (.lst (xs ++ [.ref a]))) := Keeps.list hw3
          have hN4 := hN3.ext kp.tups
          have hn4 : Nds _ _ (ns ++ [n]) := Paired.snoc (hn3.ext kp.tups) hN4
          have hw4 : upd H3 wl (.lst (xs ++ [.ref a])) wl = some (.lst (xs ++ [.ref a])) := upd_same
          have ha := kp _ _ ha (fun z => z)
          have hk4 := hk3.ext kp.tups
          have h4 := (h1.same s3).ext kp.tups
          generalize upd H3 wl (.lst (xs ++ [.ref a])) = H4 at r4 hN4 hn4 hw4 ha hk4 h4 ⊢
          refine ⟨_, rfl, a, _, _, _, rfl, rfl, SqT.of ha, atI_nat (j := 4) rfl, _, rfl, a, _, _, _, rfl, rfl, SqT.of ha, atI_nat (j := 3) rfl, _, rfl, _, rfl, a, _, _, _, rfl, rfl, SqT.of ha, atI_nat (j := 0) rfl, kv, x1, key, n.key, rfl, hk4, h4, dk, fun H5 s5 => ⟨_, rfl, ?_⟩⟩
          have r5 := r4.same s5
          have hl5 : (ns ++ [n]).length + f ≤ 302 := by rw [List.length_append, List.length_singleton]; omega
          have hn5 := hn4.ext (Keeps.of_same s5).tups
          cases hah : ahead key n.key with
          | true =>
            rw [if_pos hah] at r5
            exact iteT ⟨_, rfl, a, _, _, _, rfl, rfl, SqT.of (s5 _ _ ha), atI_nat (j := 2) rfl, n.left, n.count, _, _, _, rfl, s5 _ _ hw4, hn5, hl5, r5⟩
          | false =>
            rw [if_neg (by rw [hah]; decide)] at r5
            exact iteF ⟨n.right, n.count, _, _, _, rfl, s5 _ _ hw4, hn5, hl5, r5⟩
    · rw [if_pos (eq0 c1)] at r1
      obtain ⟨s, V2⟩ := r1.vault
      refine ⟨_, rfl, _, rfl, _, rfl, _, _, s, fun Q' q => ⟨_, rfl, q⟩, V2, _, rfl, _, rfl, by show 5 ≤ sizeLine; decide, fun p hp => r1.layN V2 hk1 hv1 hp fun m H3 st3 r3 => ?_⟩
      exact ⟨v, wl, xs, ns, kv, key, m, 1, rfl, r1.lst st3 hw1, hn1.ext (st3.tups r1.dict), hk1.ext (st3.tups r1.dict), dk, r3.tail fun q H4 y st4 r4 e => by subst e; exact r4.ret rfl⟩
def spCut (K : PySem.W.Frag) : Sp := fun vs H Q E => ∃ v root kv key, vs = [v, .int root, kv] ∧ IsT H kv key ∧ key.depth ≤ 6 ∧ Does K H v (cutW root key) (fun _ x n => x = .int n) Q E
theorem fo_cut (T : Tx K mg) : Fo P w K mg base (L2.CX P w) 12 (ad K "cut") (spCut K) := by
  have S : FnScope ["vault", "root", "key", "whole", "way", "count", "node"] ["vault", "root", "key"] (defScope (top 74)) := ⟨rfl, rfl, rfl, by decide +kernel, rfl, by decide +kernel, by decide +kernel⟩
  obtain ⟨t_UNBOUND, h_UNBOUND⟩ := T.i_UNBOUND
  have F_node_beneath : Fo P w K mg base (L2.CX P w) 4 (ad K "node_beneath") (spNodeBeneath K) := fo_node_beneath T
  have F_ahead : Fo P w K mg base CX0 9 (ad K "ahead") spAhead := fo_ahead T
  have F_joined : Fo P w K mg base (L2.CX P w) 11 (ad K "joined") (spJoined K) := fo_joined T
  have F_rebuilt : Fo P w K mg base (L2.CX P w) 10 (ad K "rebuilt") (spRebuilt K) := fo_rebuilt T
  refine T.d_cut.ok S (fun _ _ _ _ _ _ us hl => match us, hl with | [_, _, _], _ => rfl) (fun vs H Q E h => by obtain ⟨v, root, kv, key, rfl, _⟩ := h; rfl) (fun cdv A outer s H vs Q E hr_joined h => ?_)
  have hr_rebuilt := hr_joined.mono (show 10 ≤ 11 by decide)
  have hr_ahead := hr_joined.mono (show 9 ≤ 11 by decide)
  have hr_node_beneath := hr_joined.mono (show 4 ≤ 11 by decide)
  have hu6 := hr_joined.units
  refine ⟨_, (pss_cons (ps_set (i := 3) S.nd rfl (Or.inl rfl) (pv 1)) (pss_cons (ps_set (i := 4) S.nd rfl (Or.inl rfl) (pe_lst pa_nil)) (pss_cons (ps_set (i := 5) S.nd rfl (Or.inl rfl) (pe_glob (v := V.int 301) rfl h_UNBOUND ⟨_, rfl⟩)) (pss_cons (ps_while ownX (pt_cmpR op_ne (pv 1) pe_int (nomark _)) (pss_cons (ps_set (i := 6) S.nd rfl (Or.inl rfl) (pe_fn F_node_beneath hr_node_beneath rfl T.b_node_beneath.g passX (pa_cons (pv 0) (pa_cons (pv 1) (pa_cons (pv 5) pa_nil))))) (pss_cons (ps_if (pt_cmpR (op_eqT hu6) (pe_ix ix_tup (pv 6) pe_int (fun _ _ => rfl)) (pv 2) (nomark _)) (pss_one (ps_ret (pe_fn F_rebuilt hr_rebuilt rfl T.b_rebuilt.g passX (pa_cons (pv 0) (pa_cons (pv 4) (pa_cons (pv 2) (pa_cons (pe_fn F_joined hr_joined rfl T.b_joined.g passX (pa_cons (pv 0) (pa_cons (pe_ix ix_tup (pv 6) pe_int (fun _ _ => rfl)) (pa_cons (pe_ix ix_tup (pv 6) pe_int (fun _ _ => rfl)) (pa_cons (pe_ix ix_tup (pv 6) pe_int (fun _ _ => rfl)) pa_nil))))) (pa_cons (pe_un un_neg pe_int) pa_nil)))))))) pss_nil) (pss_cons (ps_expr (pe_bm PySem.F.plainAttrs_list PySem.F.slot_list_append PySem.F.type_list_append mt_append (pv 4) (pa_cons (pv 6) pa_nil))) (pss_cons (ps_set (i := 5) S.nd rfl (Or.inl rfl) (pe_ix ix_tup (pv 6) pe_int (fun _ _ => rfl))) (pss_cons (ps_set (i := 1) S.nd rfl (Or.inl rfl) (pe_ix ix_tup (pv 6) pe_int (fun _ _ => rfl))) (pss_one (ps_if (pt_val (pe_fn F_ahead hr_ahead rfl T.b_ahead.g pass0 (pa_cons (pv 2) (pa_cons (pe_ix ix_tup (pv 6) pe_int (fun _ _ => rfl)) pa_nil)))) (pss_one (ps_set (i := 1) S.nd rfl (Or.inl rfl) (pe_ix ix_tup (pv 6) pe_int (fun _ _ => rfl)))) pss_nil)))))))) (pss_one (ps_ret (pv 3))))))), ?_⟩
  obtain ⟨v, root, kv, key, rfl, hk, dk, hD⟩ := h
  obtain ⟨M, hM, r⟩ := hD.start
  unfold cutW at r
  refine ⟨_, rfl, by show 0 ≤ sizeLine; decide, fun wl hwl => ?_⟩
  have fr : H wl = none := hwl
  have r' := r.keep (Step.up r.step (l := wl) (o := .lst []) (.inl fr)) (Keeps.of_same (same_put (Same.refl H) hwl))
  generalize hwh : root = whole at r' ⊢
  refine ⟨fun f σ H' => ∃ root c v6 xs ns, σ = [some v, some (.int root), some kv, some (.int whole), some (.ref wl), some (.int c), v6] ∧ H' wl = some (.lst xs) ∧ Nds H' xs ns ∧ ns.length + f ≤ 302 ∧ Run K H M E v (cutP key whole f c root ns) (fun n s' => ∀ H' x, Step M H H' → VaultAt K H' v s' M → x = .int n → Q x H') H',
    ⟨302, whole, 301, _, [], [], rfl, upd_same, .nil, Nat.le_refl _, r'⟩, ?_⟩
  clear hwh r'
  rintro f σ H1 ⟨root, c, v6, xs, ns, rfl, hw1, hn1, hf, r1⟩
  cases f with
  | zero => exact r1.bad.elim
  | succ f =>
    have hl := Paired.length hn1
    unfold cutP at r1
    refine ⟨_, rfl, rfl, _, rfl, ite2 (fun c1 => ?_) (fun c1 => ?_)⟩
    · rw [if_neg (ne0 c1)] at r1
      refine ⟨fun σ H' => ∃ root c v6 xs ns, σ = [some v, some (.int root), some kv, some (.int whole), some (.ref wl), some (.int c), v6] ∧ H' wl = some (.lst xs) ∧ Nds H' xs ns ∧ ns.length + f ≤ 302 ∧ Run K H M E v (cutP key whole f c root ns) (fun n s' => ∀ H' x, Step M H H' → VaultAt K H' v s' M → x = .int n → Q x H') H',
        fun σ' H' wv => ⟨f, Nat.lt_succ_self _, wv⟩, ?_⟩
      refine ⟨_, rfl, _, rfl, _, rfl, v, root, c, rfl, r1.call fun n H2 x st r2 hN => ?_⟩
      have hw2 := r1.lst st hw1
      have hn2 := hn1.ext (st.tups r1.dict)
      have hk2 := hk.ext (r2.tups hM)
      obtain ⟨ni, no, a, x1, x2, rfl, ha, h1, h2⟩ := id hN
      refine ⟨_, rfl, a, _, _, _, rfl, rfl, SqT.of ha, atI_nat (j := 0) rfl, _, rfl, n.key, key, h1, hk2, Nat.le_trans no.1.depth (by decide), _, rfl, ite2 (fun c2 => ?_) (fun c2 => ?_)⟩
      · rw [if_pos (of_decide_eq_true c2)] at r2
        refine ⟨_, rfl, _, rfl, _, rfl, _, rfl, _, rfl, a, _, _, _, rfl, rfl, SqT.of ha, atI_nat (j := 2) rfl, _, rfl, a, _, _, _, rfl, rfl, SqT.of ha, atI_nat (j := 3) rfl, _, rfl, a, _, _, _, rfl, rfl, SqT.of ha, atI_nat (j := 4) rfl, v, n.left, n.right, n.count, rfl, r2.call fun m H3 y st3 r3 e => ?_⟩
        subst e
        exact ⟨_, rfl, v, wl, xs, ns, kv, key, m, -1, rfl, r2.lst st3 hw2, hn2.ext (st3.tups r2.dict), hk2.ext (st3.tups r2.dict), dk, r3.tail fun q H4 y st4 r4 e => by subst e; exact r4.ret rfl⟩
      · rw [if_neg (fun z => c2 (decide_eq_true z))] at r2
        refine ⟨_, rfl, .inl ⟨rfl, _, SqL.of hw2⟩, _, rfl, wl, xs, _, rfl, rfl, hw2, Nat.lt_of_lt_of_le (show xs.length < 303 by omega) (by decide), ?_⟩
        have r4 := r2.put (ys := xs ++ [.ref a]) hw2 fr
        have kp : Keeps H2 (upd H2 wl (.lst (xs ++ [.ref a]))) := Keeps.list hw2
        have hN4 := hN.ext kp.tups
        have hn4 : Nds _ _ (ns ++ [n]) := Paired.snoc (hn2.ext kp.tups) hN4
        have hw4 : upd H2 wl (.lst (xs ++ [.ref a])) wl = some (.lst (xs ++ [.ref a])) := upd_same
        have ha := kp _ _ ha (fun z => z)
        have hk4 := hk2.ext kp.tups
        have h4 := h1.ext kp.tups
        generalize upd H2 wl (.lst (xs ++ [.ref a])) = H4 at r4 hN4 hn4 hw4 ha hk4 h4 ⊢
        refine ⟨_, rfl, a, _, _, _, rfl, rfl, SqT.of ha, atI_nat (j := 4) rfl, _, rfl, a, _, _, _, rfl, rfl, SqT.of ha, atI_nat (j := 3) rfl, _, rfl, _, rfl, a, _, _, _, rfl, rfl, SqT.of ha, atI_nat (j := 0) rfl, kv, x1, key, n.key, rfl, hk4, h4, dk, fun H5 s5 => ⟨_, rfl, ?_⟩⟩
        have r5 := r4.same s5
        have hl5 : (ns ++ [n]).length + f ≤ 302 := by rw [List.length_append, List.length_singleton]; omega
        have hn5 := hn4.ext (Keeps.of_same s5).tups
        cases hah : ahead key n.key with
        | true =>
          rw [if_pos hah] at r5
          exact iteT ⟨_, rfl, a, _, _, _, rfl, rfl, SqT.of (s5 _ _ ha), atI_nat (j := 2) rfl, n.left, n.count, _, _, _, rfl, s5 _ _ hw4, hn5, hl5, r5⟩
        | false =>
          rw [if_neg (by rw [hah]; decide)] at r5
          exact iteF ⟨n.right, n.count, _, _, _, rfl, s5 _ _ hw4, hn5, hl5, r5⟩
    · rw [if_pos (eq0 c1)] at r1
      exact ⟨_, rfl, r1.ret rfl⟩
end Wk
set_option Elab.async false
set_option linter.all false
set_option maxRecDepth 100000
set_option maxHeartbeats 4000000
/-! Trees: stretch. -/
namespace Wk
open PySem PySem.Spec PyProof.Rows L2 Pv Ph
variable {P : Program} {w : World} {K : PySem.W.Frag} {mg : Str → Option Value} {base : Heap}
theorem cutSeq {a b : TS} {D : Ends} {σ : L2.St} {H : Hp} (I : Hp → Prop) (rest : ∀ H1, I H1 → b D σ H1) (main : (∀ H1, I H1 → b D σ H1) → tSeq a b D σ H) : tSeq a b D σ H := main rest
def wdat : Wt → PyData
  | .tree r c => .tuple [.int r, .int c, .bool false]
  | .pair k w => .tuple [.tuple [k.data, w.data], .int 0, .bool true]
def wdats : List Wt → List PyData
  | [] => []
  | a :: as => wdat a :: wdats as
inductive WtV (H : Hp) : V → Wt → Prop
  | tree {p : Addr} {r c : Int} : H p = some (.tup [.int r, .int c, .bl false]) → WtV H (.ref p) (.tree r c)
  | pair {p q : Addr} {x1 x2 : V} {k w : Th} : H p = some (.tup [.ref q, .int 0, .bl true]) → H q = some (.tup [x1, x2]) → IsT H x1 k → IsT H x2 w → WtV H (.ref p) (.pair k w)
theorem WtV.ext {H H' : Hp} (t : Tups H H') {x : V} {w : Wt} (h : WtV H x w) : WtV H' x w := by
  cases h with
  | tree h => exact .tree (t _ _ h)
  | pair h1 h2 h3 h4 => exact .pair (t _ _ h1) (t _ _ h2) (h3.ext t) (h4.ext t)
abbrev Wts (H : Hp) (xs : List V) (ws : List Wt) : Prop := Paired (WtV H) xs ws
theorem Wts.ext {H H' : Hp} (t : Tups H H') {xs : List V} {ws : List Wt} (h : Wts H xs ws) : Wts H' xs ws := Paired.mapP h fun _ _ z => z.ext t
theorem WtV.dp {H : Hp} {x : V} {w : Wt} (h : WtV H x w) : Dp K H x (wdat w) := by
  cases h with
  | tree h => exact .tup (SqT.of h) (.cons (.int _) (.cons (.int _) (.cons (.bl _) .nil)))
  | pair h1 h2 h3 h4 => exact .tup (SqT.of h1) (.cons (.tup (SqT.of h2) (.cons h3.dp (.cons h4.dp .nil))) (.cons (.int _) (.cons (.bl _) .nil)))
theorem Wts.dp {H : Hp} {xs : List V} {ws : List Wt} (h : Wts H xs ws) : DpAll K H xs (wdats ws) := by
  unfold Wts at h
  induction h with
  | nil => exact .nil
  | cons a t ih => exact .cons a.dp ih
theorem wdats_plain : ∀ ws : List Wt, PyData.plainAll (wdats ws) = true
  | [] => rfl
  | .tree r c :: ws => by simp only [wdats, wdat, PyData.plainAll, PyData.plain, wdats_plain ws, Bool.and_self]
  | .pair k w :: ws => by simp only [wdats, wdat, PyData.plainAll, PyData.plain, wdats_plain ws, data_plain, Bool.and_self]
theorem wdats_empty : ∀ ws : List Wt, (wdats ws).isEmpty = ws.isEmpty
  | [] => rfl
  | _ :: _ => rfl
theorem Paired.unsnoc {α β : Type} {F : α → β → Prop} : ∀ {xs : List α} {ys : List β} {b : β}, Paired F xs (ys ++ [b]) → ∃ xs' a, xs = xs' ++ [a] ∧ Paired F xs' ys ∧ F a b
  | _, [], b, .cons h .nil => ⟨[], _, rfl, .nil, h⟩
  | _, y :: ys, b, .cons h t => by
    obtain ⟨xs', a, rfl, t', h'⟩ := Paired.unsnoc t
    exact ⟨_ :: xs', a, rfl, .cons h t', h'⟩
theorem rev_if {α : Type} (b : Bool) (x : α) : (if b = true then [x] else []).reverse = if b = true then [x] else [] := by cases b <;> rfl
theorem len_if {α : Type} (b : Bool) (x : α) : (if b = true then [x] else []).length ≤ 1 := by cases b <;> simp
/-- the heap within a turn of stretch -/
structure Pk (H0 H2 : Hp) (M : List Addr) (pl wl : Addr) (ps : List V) (acc : List (Th × Th)) (us : List Wt) (H : Hp) : Prop where
  w : ∃ zs, H wl = some (.lst zs) ∧ Wts H zs us
  p : H pl = some (.lst ps)
  t : IsTs H ps (acc.map pairT)
  k : Keeps H2 H
  s : Step M H0 H
theorem Pk.same {H0 H2 : Hp} {M : List Addr} {pl wl : Addr} {ps : List V} {acc : List (Th × Th)} {us : List Wt} {H H' : Hp} (h : Pk H0 H2 M pl wl ps acc us H) (e : Same H H') : Pk H0 H2 M pl wl ps acc us H' := by
  obtain ⟨zs, hz, hw⟩ := h.w
  exact ⟨⟨zs, e _ _ hz, Wts.ext (Keeps.of_same e).tups hw⟩, e _ _ h.p, h.t.ext (Keeps.of_same e).tups, h.k.trans (Keeps.of_same e), h.s.trans (Step.of_same e)⟩
theorem Pk.push {H0 H2 : Hp} {M : List Addr} {pl wl : Addr} {ps : List V} {acc : List (Th × Th)} {us : List Wt} {H : Hp} (h : Pk H0 H2 M pl wl ps acc us H) (ne : pl ≠ wl) (f : H0 wl = none) {zs : List V} (hz : H wl = some (.lst zs)) {y : V} {u : Wt} (hy : WtV H y u) : Pk H0 H2 M pl wl ps acc (us ++ [u]) (upd H wl (.lst (zs ++ [y]))) := by
  obtain ⟨zs', hz', hw⟩ := h.w
  rw [hz] at hz'
  cases hz'
  have kp : Keeps H (upd H wl (.lst (zs ++ [y]))) := Keeps.list hz
  refine ⟨⟨_, upd_same, Paired.snoc (Wts.ext kp.tups hw) (hy.ext kp.tups)⟩, ?_, h.t.ext kp.tups, h.k.trans kp, h.s.up (.inl f)⟩
  rw [upd_ne ne]
  exact h.p
def spStretch (K : PySem.W.Frag) : Sp := fun vs H Q E => ∃ v root kl kh low high, vs = [v, .int root, kl, kh] ∧ IsT H kl low ∧ IsT H kh high ∧ low.depth ≤ 6 ∧ high.depth ≤ 6 ∧ Does K H v (stretchW root low high) (fun H' x l => ∃ p xs, x = .ref p ∧ H p = none ∧ l.length ≤ 1000 ∧ H' p = some (.lst xs) ∧ IsTs H' xs (l.map pairT)) Q E
theorem fo_stretch (T : Tx K mg) : Fo P w K mg base (L2.CX P w) 12 (ad K "stretch") (spStretch K) := by
  have S : FnScope ["vault", "root", "low", "high", "pairs", "waiting", "here", "count", "is_pair", "node"] ["vault", "root", "low", "high"] (defScope (top 66)) := ⟨rfl, rfl, rfl, by decide +kernel, rfl, by decide +kernel, by decide +kernel⟩
  obtain ⟨t_UNBOUND, h_UNBOUND⟩ := T.i_UNBOUND
  have F_is_empty : Fo P w K mg base CX0 10 (ad K "is_empty") spEmpty := fo_is_empty T
  have F_goes_left : Fo P w K mg base CX0 10 (ad K "goes_left") spGoesL := fo_goes_left T
  have F_goes_right : Fo P w K mg base CX0 10 (ad K "goes_right") spGoesR := fo_goes_right T
  have F_is_within_trees : Fo P w K mg base CX0 11 (ad K "is_within_trees") spWithinT := fo_is_within_trees T
  have F_node_beneath : Fo P w K mg base (L2.CX P w) 4 (ad K "node_beneath") (spNodeBeneath K) := fo_node_beneath T
  have F_need_counted : Fo P w K mg base (L2.CX P w) 6 (ad K "need_counted") (spNeed K) := fo_need_counted T
  refine T.d_stretch.ok S (fun _ _ _ _ _ _ us hl => match us, hl with | [_, _, _, _], _ => rfl) (fun vs H Q E h => by obtain ⟨v, root, kl, kh, low, high, rfl, _⟩ := h; rfl) (fun cdv A outer s H vs Q E hr_is_within_trees h => ?_)
  have hr_is_empty := hr_is_within_trees.mono (show 10 ≤ 11 by decide)
  have hr_goes_left := hr_is_within_trees.mono (show 10 ≤ 11 by decide)
  have hr_goes_right := hr_is_within_trees.mono (show 10 ≤ 11 by decide)
  have hr_node_beneath := hr_is_within_trees.mono (show 4 ≤ 11 by decide)
  have hr_need_counted := hr_is_within_trees.mono (show 6 ≤ 11 by decide)
  have hu6 := hr_is_within_trees.units
  refine ⟨_, (pss_cons (ps_set (i := 4) S.nd rfl (Or.inl rfl) (pe_lst pa_nil)) (pss_cons (ps_if (pt_val (pe_fn F_is_empty hr_is_empty rfl T.b_is_empty.g pass0 (pa_cons (pv 2) (pa_cons (pv 3) pa_nil)))) (pss_one (ps_ret (pv 4))) pss_nil) (pss_cons (ps_set (i := 5) S.nd rfl (Or.inl rfl) (pe_lst (pa_cons (pe_tup (pa_cons (pv 1) (pa_cons (pe_glob (v := V.int 301) rfl h_UNBOUND ⟨_, rfl⟩) (pa_cons pe_bl pa_nil)))) pa_nil))) (pss_cons (ps_while ownX (pt_cmpR (op_neNil hu6) (pv 5) (pe_lst pa_nil) (nomark _)) (pss_cons (ps_asg (pe_bm0 PySem.F.plainAttrs_list PySem.F.slot_list_pop PySem.F.type_list_pop mt_pop (pv 5)) (pg_tup rfl (pgs_cons (pg_name (i := 6) S.nd rfl (Or.inl rfl)) (pgs_cons (pg_name (i := 7) S.nd rfl (Or.inl rfl)) (pgs_cons (pg_name (i := 8) S.nd rfl (Or.inl rfl)) pgs_nil))))) (pss_one (ps_if (pt_val (pv 8)) (pss_one (ps_expr (pe_bm PySem.F.plainAttrs_list PySem.F.slot_list_append PySem.F.type_list_append mt_append (pv 4) (pa_cons (pv 6) pa_nil)))) (pss_one (ps_if (pt_cmpR op_ne (pv 6) pe_int (nomark _)) (pss_cons (ps_set (i := 9) S.nd rfl (Or.inl rfl) (pe_fn F_node_beneath hr_node_beneath rfl T.b_node_beneath.g passX (pa_cons (pv 0) (pa_cons (pv 6) (pa_cons (pv 7) pa_nil))))) (pss_cons (ps_if (PW.pt (pw_and (pt_val (pe_fn F_goes_left hr_goes_left rfl T.b_goes_left.g pass0 (pa_cons (pv 2) (pa_cons (pe_ix ix_tup (pv 9) pe_int (fun _ _ => rfl)) pa_nil)))) (pw_and1 (pt_val (pe_fn F_goes_right hr_goes_right rfl T.b_goes_right.g pass0 (pa_cons (pv 3) (pa_cons (pe_ix ix_tup (pv 9) pe_int (fun _ _ => rfl)) pa_nil))))))) (pss_one (ps_expr (pe_fn F_need_counted hr_need_counted rfl T.b_need_counted.g passX (pa_cons (pv 0) (pa_cons (pv 9) pa_nil))))) pss_nil) (pss_cons (ps_if (pt_val (pe_fn F_goes_right hr_goes_right rfl T.b_goes_right.g pass0 (pa_cons (pv 3) (pa_cons (pe_ix ix_tup (pv 9) pe_int (fun _ _ => rfl)) pa_nil)))) (pss_one (ps_expr (pe_bm PySem.F.plainAttrs_list PySem.F.slot_list_append PySem.F.type_list_append mt_append (pv 5) (pa_cons (pe_tup (pa_cons (pe_ix ix_tup (pv 9) pe_int (fun _ _ => rfl)) (pa_cons (pe_ix ix_tup (pv 9) pe_int (fun _ _ => rfl)) (pa_cons pe_bl pa_nil)))) pa_nil)))) pss_nil) (pss_cons (ps_if (pt_val (pe_fn F_is_within_trees hr_is_within_trees rfl T.b_is_within_trees.g pass0 (pa_cons (pv 2) (pa_cons (pv 3) (pa_cons (pe_ix ix_tup (pv 9) pe_int (fun _ _ => rfl)) pa_nil))))) (pss_one (ps_expr (pe_bm PySem.F.plainAttrs_list PySem.F.slot_list_append PySem.F.type_list_append mt_append (pv 5) (pa_cons (pe_tup (pa_cons (pe_tup (pa_cons (pe_ix ix_tup (pv 9) pe_int (fun _ _ => rfl)) (pa_cons (pe_ix ix_tup (pv 9) pe_int (fun _ _ => rfl)) pa_nil))) (pa_cons pe_int (pa_cons pe_bl pa_nil)))) pa_nil)))) pss_nil) (pss_one (ps_if (pt_val (pe_fn F_goes_left hr_goes_left rfl T.b_goes_left.g pass0 (pa_cons (pv 2) (pa_cons (pe_ix ix_tup (pv 9) pe_int (fun _ _ => rfl)) pa_nil)))) (pss_one (ps_expr (pe_bm PySem.F.plainAttrs_list PySem.F.slot_list_append PySem.F.type_list_append mt_append (pv 5) (pa_cons (pe_tup (pa_cons (pe_ix ix_tup (pv 9) pe_int (fun _ _ => rfl)) (pa_cons (pe_ix ix_tup (pv 9) pe_int (fun _ _ => rfl)) (pa_cons pe_bl pa_nil)))) pa_nil)))) pss_nil)))))) pss_nil)))))) (pss_one (ps_ret (pv 4))))))), ?_⟩
  obtain ⟨v, root, kl, kh, low, high, rfl, hlo, hhi, dlo, dhi, hD⟩ := h
  obtain ⟨M, hM, r⟩ := hD.start
  unfold stretchW at r
  refine ⟨by show 0 ≤ sizeLine; decide, fun pl hpl => ?_⟩
  have frp : H pl = none := hpl
  have s0 := same_put (o := .lst []) (Same.refl H) hpl
  have r1 := r.same s0
  have hp1 : upd H pl (.lst []) pl = some (.lst []) := upd_same
  have hlo1 := hlo.same s0
  have hhi1 := hhi.same s0
  generalize upd H pl (.lst []) = H1 at r1 hp1 hlo1 hhi1 ⊢
  refine ⟨_, rfl, _, rfl, kl, kh, low, high, rfl, hlo1, hhi1, dlo, dhi, fun H2 s2 => ⟨_, rfl, ?_⟩⟩
  have r2 := r1.same s2
  have hp2 := s2 _ _ hp1
  cases he : isEmpty low high with
  | true =>
    rw [if_pos he] at r2
    exact iteT ⟨_, rfl, r2.ret ⟨pl, [], rfl, frp, by simp, hp2, .nil⟩⟩
  | false =>
    rw [if_neg (by rw [he]; decide)] at r2
    refine iteF ⟨_, rfl, by show 3 ≤ sizeLine; decide, fun q hq => ⟨by show 1 ≤ sizeLine; decide, fun wl hwl => ?_⟩⟩
    have sq := same_put (o := .tup [.int root, .int 301, .bl false]) (Same.refl H2) hq
    have sw := same_put (o := .lst [.ref q]) (Same.refl _) hwl
    have r3 := r2.same (sq.trans sw)
    have frw : H wl = none := (r2.same sq).new hwl
    have hp3 := sw _ _ (sq _ _ hp2)
    have ne : pl ≠ wl := ne_of_none (sq _ _ hp2) hwl
    have hw3 : Wts (upd (upd H2 q (.tup [.int root, .int 301, .bl false])) wl (.lst [.ref q])) [.ref q] ([Wt.tree root 301] : List Wt).reverse := .cons (.tree (sw _ _ upd_same)) .nil
    have hz3 : upd (upd H2 q (.tup [.int root, .int 301, .bl false])) wl (.lst [.ref q]) wl = some (.lst [.ref q]) := upd_same
    generalize upd (upd H2 q (.tup [.int root, .int 301, .bl false])) wl (.lst [.ref q]) = H3 at r3 hp3 hw3 hz3 ⊢
    clear sq sw
    refine ⟨fun f σ H' => ∃ v6 v7 v8 v9 ps zs ws acc, σ = [some v, some (.int root), some kl, some kh, some (.ref pl), some (.ref wl), v6, v7, v8, v9] ∧ H' pl = some (.lst ps) ∧ H' wl = some (.lst zs) ∧ IsTs H' ps (acc.map pairT) ∧ Wts H' zs ws.reverse ∧ ws.length + 2 * f ≤ 2001 ∧ acc.length + f ≤ 1000 ∧ Run K H M E v (stretchP low high f ws acc) (fun l s' => ∀ H' x, Step M H H' → VaultAt K H' v s' M → (∃ p xs, x = .ref p ∧ H p = none ∧ l.length ≤ 1000 ∧ H' p = some (.lst xs) ∧ IsTs H' xs (l.map pairT)) → Q x H') H',
      ⟨1000, _, _, _, _, [], [.ref q], [.tree root 301], [], rfl, hp3, hz3, .nil, hw3, Nat.le_refl 2001, Nat.le_refl 1000, r3⟩, ?_⟩
    rintro f σ H4 ⟨v6, v7, v8, v9, ps, zs, ws, acc, rfl, hp4, hz4, ht4, hw4, hf1, hf2, r4⟩
    have lz := Paired.length hw4
    rw [List.length_reverse] at lz
    refine ⟨_, rfl, by show 0 ≤ sizeLine; decide, fun q0 hq0 => ?_⟩
    have s5 := same_put (o := .lst []) (Same.refl H4) hq0
    have r5 := r4.same s5
    have hp5 := s5 _ _ hp4
    have hz5 := s5 _ _ hz4
    have ht5 := ht4.ext (Keeps.of_same s5).tups
    have hw5 := Wts.ext (Keeps.of_same s5).tups hw4
    have hq5 : upd H4 q0 (.lst []) q0 = some (.lst []) := upd_same
    generalize upd H4 q0 (.lst []) = H5 at r5 hp5 hz5 ht5 hw5 hq5 ⊢
    refine ⟨wdats ws.reverse, .lst (SqL.of hz5) hw5.dp, .lst (SqL.of hq5) .nil, wdats_plain _, _, rfl, ?_⟩
    rw [wdats_empty, List.isEmpty_reverse]
    cases f with
    | zero => exact r5.bad.elim
    | succ f =>
      cases ws with
      | nil =>
        refine iteF ⟨_, rfl, r5.ret ⟨pl, ps, rfl, frp, by omega, hp5, ht5⟩⟩
      | cons wt ws =>
        refine iteT ⟨fun σ H' => ∃ v6 v7 v8 v9 ps zs ws acc, σ = [some v, some (.int root), some kl, some kh, some (.ref pl), some (.ref wl), v6, v7, v8, v9] ∧ H' pl = some (.lst ps) ∧ H' wl = some (.lst zs) ∧ IsTs H' ps (acc.map pairT) ∧ Wts H' zs ws.reverse ∧ ws.length + 2 * f ≤ 2001 ∧ acc.length + f ≤ 1000 ∧ Run K H M E v (stretchP low high f ws acc) (fun l s' => ∀ H' x, Step M H H' → VaultAt K H' v s' M → (∃ p xs, x = .ref p ∧ H p = none ∧ l.length ≤ 1000 ∧ H' p = some (.lst xs) ∧ IsTs H' xs (l.map pairT)) → Q x H') H',
          fun σ' H' wv => ⟨f, Nat.lt_succ_self _, wv⟩, ?_⟩
        rw [List.reverse_cons] at hw5
        obtain ⟨zs, y, rfl, hw5, hy5⟩ := Paired.unsnoc hw5
        rw [List.length_append, List.length_singleton, List.length_cons] at lz
        rw [List.length_cons] at hf1
        refine ⟨_, rfl, .inl ⟨rfl, _, SqL.of hz5⟩, wl, _, y, rfl, rfl, hz5, by simp, ?_⟩
        rw [List.dropLast_concat]
        have r6 := r5.put (ys := zs) hz5 frw
        have kp : Keeps H5 (upd H5 wl (.lst zs)) := Keeps.list hz5
        have hp6 : upd H5 wl (.lst zs) pl = some (.lst ps) := by rw [upd_ne ne]; exact hp5
        have hz6 : upd H5 wl (.lst zs) wl = some (.lst zs) := upd_same
        have ht6 := ht5.ext kp.tups
        have hw6 := Wts.ext kp.tups hw5
        have hy6 := hy5.ext kp.tups
        generalize upd H5 wl (.lst zs) = H6 at r6 hp6 hz6 ht6 hw6 hy6 ⊢
        cases hy6 with
        | @pair p q1 x1 x2 k wo hpp hqq hk hwo =>
          unfold stretchP at r6
          refine ⟨p, _, rfl, SqT.of hpp, rfl, _, _, rfl, _, _, rfl, _, _, rfl, rfl, ?_⟩
          refine ⟨_, rfl, _, rfl, iteT ⟨_, rfl, .inl ⟨rfl, _, SqL.of hp6⟩, _, rfl, pl, ps, _, rfl, rfl, hp6, ?_, ?_⟩⟩
          · have := ht6.length
            rw [List.length_map] at this
            exact Nat.lt_of_lt_of_le (show ps.length < 1001 by omega) (by decide)
          · have kp : Keeps H6 (upd H6 pl (.lst (ps ++ [.ref q1]))) := Keeps.list hp6
            refine ⟨_, _, _, _, _, _, ws, acc ++ [(k, wo)], rfl, upd_same, by rw [upd_ne (Ne.symm ne)]; exact hz6, ?_, Wts.ext kp.tups hw6, by omega, by rw [List.length_append, List.length_singleton]; omega, r6.put hp6 frp⟩
            rw [List.map_append]
            exact IsTs.snoc (ht6.ext kp.tups) (.tup (kp _ _ hqq fun z => z) (.cons (hk.ext kp.tups) (.cons (hwo.ext kp.tups) .nil)))
        | @tree p here c hpp =>
          unfold stretchP at r6
          refine ⟨p, _, rfl, SqT.of hpp, rfl, _, _, rfl, _, _, rfl, _, _, rfl, rfl, ?_⟩
          refine ⟨_, rfl, _, rfl, iteF ⟨_, rfl, rfl, _, rfl, ite2 (fun c1 => ?_) (fun c1 => ?_)⟩⟩
          · rw [if_neg (ne0 c1)] at r6
            refine ⟨_, rfl, _, rfl, _, rfl, v, here, c, rfl, r6.call fun n H7 x st7 r7 hN => ?_⟩
            have hp7 := r6.lst st7 hp6
            have hz7 := r6.lst st7 hz6
            have ht7 := ht6.ext (st7.tups r6.dict)
            have hw7 := Wts.ext (st7.tups r6.dict) hw6
            obtain ⟨ni, no, a, x1, x2, rfl, ha, h1, h2⟩ := id hN
            have hlo7 := hlo.ext (r7.tups hM)
            have hhi7 := hhi.ext (r7.tups hM)
            have dn := Nat.le_trans no.1.depth (show 2 ≤ 6 by decide)
            unfold gName
            dsimp only
            refine cutSeq (fun H8 => Run K H M E v (stretchP low high f ((if goesLeft low n.key = true then [.tree n.left n.count] else []) ++ ((if isWithin low high n.key = true then [.pair n.key n.worth] else []) ++ ((if goesRight high n.key = true then [.tree n.right n.count] else []) ++ ws))) acc) (fun l s' => ∀ H' x, Step M H H' → VaultAt K H' v s' M → (∃ p xs, x = .ref p ∧ H p = none ∧ l.length ≤ 1000 ∧ H' p = some (.lst xs) ∧ IsTs H' xs (l.map pairT)) → Q x H') H8 ∧ Step M H7 H8) (fun H8 h8 => ?_) (fun rest => ?_)
            · obtain ⟨r8, st8⟩ := h8
              have t8 := st8.tups r7.dict
              have hN8 := hN.ext t8
              have h18 := h1.ext t8
              have h28 := h2.ext t8
              have ha8 := t8 _ _ ha
              have hlo8 := hlo.ext (r8.tups hM)
              have hhi8 := hhi.ext (r8.tups hM)
              have pk8 : Pk H H8 M pl wl ps acc ws.reverse H8 := ⟨⟨_, r7.lst st8 hz7, Wts.ext t8 hw7⟩, r7.lst st8 hp7, ht7.ext t8, Keeps.refl _, r8.step⟩
              have big : ∀ {us : List Wt} {zs : List V} {H9 : Hp}, us.length ≤ ws.length + 3 → Wts H9 zs us → zs.length < sizeLine := fun hu hz => by
                have := Paired.length hz
                exact Nat.lt_of_lt_of_le (show _ < 2010 by omega) (by decide)
              clear r6 r7 hN ha h1 h2 hlo7 hhi7 hp7 hz7 ht7 hw7 st7 st8 t8
              refine cutSeq (fun H9 => Pk H H8 M pl wl ps acc (ws.reverse ++ (if goesRight high n.key = true then [.tree n.right n.count] else [])) H9) (fun H9 pk9 => ?_) (fun rest => ?_)
              · refine cutSeq (fun H9 => Pk H H8 M pl wl ps acc (ws.reverse ++ (if goesRight high n.key = true then [.tree n.right n.count] else []) ++ (if isWithin low high n.key = true then [.pair n.key n.worth] else [])) H9) (fun H10 pk10 => ?_) (fun rest => ?_)
                · have fin : ∀ H11, Pk H H8 M pl wl ps acc (ws.reverse ++ (if goesRight high n.key = true then [.tree n.right n.count] else []) ++ (if isWithin low high n.key = true then [.pair n.key n.worth] else []) ++ (if goesLeft low n.key = true then [.tree n.left n.count] else [])) H11 →
                      ∃ zs ws' acc', H11 pl = some (.lst ps) ∧ H11 wl = some (.lst zs) ∧ IsTs H11 ps (acc'.map pairT) ∧ Wts H11 zs ws'.reverse ∧ ws'.length + 2 * f ≤ 2001 ∧ acc'.length + f ≤ 1000 ∧ Run K H M E v (stretchP low high f ws' acc') (fun l s' => ∀ H' x, Step M H H' → VaultAt K H' v s' M → (∃ p xs, x = .ref p ∧ H p = none ∧ l.length ≤ 1000 ∧ H' p = some (.lst xs) ∧ IsTs H' xs (l.map pairT)) → Q x H') H11 := fun H11 pk => by
                    obtain ⟨zs, hz, hw⟩ := pk.w
                    refine ⟨zs, _, acc, pk.p, hz, pk.t, ?_, ?_, by omega, r8.keep pk.s pk.k⟩
                    · rw [List.reverse_append, List.reverse_append, List.reverse_append, rev_if, rev_if, rev_if]
                      exact hw
                    · have e1 := len_if (goesLeft low n.key) (Wt.tree n.left n.count)
                      have e2 := len_if (isWithin low high n.key) (Wt.pair n.key n.worth)
                      have e3 := len_if (goesRight high n.key) (Wt.tree n.right n.count)
                      rw [List.length_append, List.length_append, List.length_append]
                      omega
                  have ha := pk10.k _ _ ha8 (fun z => z)
                  refine ⟨_, rfl, _, rfl, a, _, _, _, rfl, rfl, SqT.of ha, atI_nat (j := 0) rfl, kl, x1, low, n.key, rfl, hlo8.ext pk10.k.tups, h18.ext pk10.k.tups, dlo, dn, fun H11 s11 => ⟨_, rfl, ?_⟩⟩
                  have pk11 := pk10.same s11
                  obtain ⟨zs11, hz11, hw11⟩ := pk11.w
                  have ha := s11 _ _ ha
                  cases hg : goesLeft low n.key with
                  | true =>
                    rw [hg] at fin
                    refine iteT ⟨_, rfl, .inl ⟨rfl, _, SqL.of hz11⟩, _, rfl, a, _, _, _, rfl, rfl, SqT.of ha, atI_nat (j := 2) rfl, _, rfl, a, _, _, _, rfl, rfl, SqT.of ha, atI_nat (j := 4) rfl, by show 3 ≤ sizeLine; decide, fun p hp => ?_⟩
                    have sp := same_put (o := .tup [.int n.left, .int n.count, .bl false]) (Same.refl H11) hp
                    have le : zs11.length < sizeLine := by
                      refine big ?_ hw11
                      have e2 := len_if (isWithin low high n.key) (Wt.pair n.key n.worth)
                      have e3 := len_if (goesRight high n.key) (Wt.tree n.right n.count)
                      rw [List.length_append, List.length_append, List.length_reverse]
                      omega
                    obtain ⟨zs, ws', acc', q⟩ := fin _ ((pk11.same sp).push ne frw (sp _ _ hz11) (.tree upd_same))
                    exact ⟨wl, zs11, _, rfl, rfl, sp _ _ hz11, le, _, _, _, _, ps, zs, ws', acc', rfl, q⟩
                  | false =>
                    rw [hg] at fin
                    obtain ⟨zs, ws', acc', q⟩ := fin H11 (by rw [if_neg (show ¬ (false = true) by decide), List.append_nil]; exact pk11)
                    exact iteF ⟨_, _, _, _, ps, zs, ws', acc', rfl, q⟩
                · have ha := pk9.k _ _ ha8 (fun z => z)
                  refine ⟨_, rfl, _, rfl, _, rfl, a, _, _, _, rfl, rfl, SqT.of ha, atI_nat (j := 0) rfl, kl, kh, x1, low, high, n.key, rfl, hlo8.ext pk9.k.tups, hhi8.ext pk9.k.tups, h18.ext pk9.k.tups, dlo, dhi, dn, fun H11 s11 => ⟨_, rfl, ?_⟩⟩
                  have pk11 := pk9.same s11
                  obtain ⟨zs11, hz11, hw11⟩ := pk11.w
                  have ha := s11 _ _ ha
                  have g1 := h18.ext pk11.k.tups
                  have g2 := h28.ext pk11.k.tups
                  cases hg : isWithin low high n.key with
                  | true =>
                    rw [hg] at rest
                    refine iteT ⟨_, rfl, .inl ⟨rfl, _, SqL.of hz11⟩, _, rfl, a, _, _, _, rfl, rfl, SqT.of ha, atI_nat (j := 0) rfl, _, rfl, a, _, _, _, rfl, rfl, SqT.of ha, atI_nat (j := 1) rfl, by show 2 ≤ sizeLine; decide, fun p hp => ⟨by show 3 ≤ sizeLine; decide, fun p2 hp2 => ?_⟩⟩
                    have sp := same_put (o := .tup [x1, x2]) (Same.refl H11) hp
                    have sp2 := same_put (o := .tup [.ref p, .int 0, .bl true]) (Same.refl _) hp2
                    have le : zs11.length < sizeLine := by
                      refine big ?_ hw11
                      have e3 := len_if (goesRight high n.key) (Wt.tree n.right n.count)
                      rw [List.length_append, List.length_reverse]
                      omega
                    exact ⟨wl, zs11, _, rfl, rfl, sp2 _ _ (sp _ _ hz11), le, rest _ ((pk11.same (sp.trans sp2)).push ne frw (sp2 _ _ (sp _ _ hz11)) (.pair upd_same (sp2 _ _ upd_same) (g1.same (sp.trans sp2)) (g2.same (sp.trans sp2))))⟩
                  | false =>
                    rw [hg] at rest
                    exact iteF (rest H11 (by rw [if_neg (show ¬ (false = true) by decide), List.append_nil]; exact pk11))
              · have ha := ha8
                refine ⟨_, rfl, _, rfl, a, _, _, _, rfl, rfl, SqT.of ha, atI_nat (j := 0) rfl, kh, x1, high, n.key, rfl, hhi8, h18, dhi, dn, fun H11 s11 => ⟨_, rfl, ?_⟩⟩
                have pk11 := pk8.same s11
                obtain ⟨zs11, hz11, hw11⟩ := pk11.w
                have ha := s11 _ _ ha
                cases hg : goesRight high n.key with
                | true =>
                  rw [hg] at rest
                  refine iteT ⟨_, rfl, .inl ⟨rfl, _, SqL.of hz11⟩, _, rfl, a, _, _, _, rfl, rfl, SqT.of ha, atI_nat (j := 3) rfl, _, rfl, a, _, _, _, rfl, rfl, SqT.of ha, atI_nat (j := 4) rfl, by show 3 ≤ sizeLine; decide, fun p hp => ?_⟩
                  have sp := same_put (o := .tup [.int n.right, .int n.count, .bl false]) (Same.refl H11) hp
                  have le : zs11.length < sizeLine := by
                    refine big ?_ hw11
                    rw [List.length_reverse]
                    omega
                  exact ⟨wl, zs11, _, rfl, rfl, sp _ _ hz11, le, rest _ ((pk11.same sp).push ne frw (sp _ _ hz11) (.tree upd_same))⟩
                | false =>
                  rw [hg] at rest
                  exact iteF (rest H11 (by rw [if_neg (show ¬ (false = true) by decide), List.append_nil]; exact pk11))
            · refine ⟨_, rfl, _, rfl, a, _, _, _, rfl, rfl, SqT.of ha, atI_nat (j := 0) rfl, kl, x1, low, n.key, rfl, hlo7, h1, dlo, dn, fun H8 s8 => ⟨_, rfl, ?_⟩⟩
              have r8 := r7.same s8
              have ha := s8 _ _ ha
              cases hg : goesLeft low n.key with
              | false =>
                rw [hg, Bool.false_and, if_neg (by decide)] at r8
                rw [hg] at rest
                exact iteF (iteF (rest H8 ⟨r8, Step.of_same s8⟩))
              | true =>
                refine iteT ⟨_, rfl, _, rfl, a, _, _, _, rfl, rfl, SqT.of ha, atI_nat (j := 0) rfl, kh, x1, high, n.key, rfl, hhi7.same s8, h1.same s8, dhi, dn, fun H9 s9 => ⟨_, rfl, ?_⟩⟩
                have r9 := r8.same s9
                cases hg2 : goesRight high n.key with
                | false =>
                  rw [hg, hg2, Bool.and_false, if_neg (by decide)] at r9
                  rw [hg, hg2] at rest
                  exact iteF (rest H9 ⟨r9, Step.of_same (s8.trans s9)⟩)
                | true =>
                  rw [hg, hg2, Bool.and_self, if_pos rfl] at r9
                  rw [hg, hg2] at rest
                  exact iteT ⟨_, rfl, _, rfl, v, _, n, rfl, hN.ext (Keeps.of_same (s8.trans s9)).tups, r9.call fun _ H10 y st10 r10 e => rest H10 ⟨r10, (Step.of_same (s8.trans s9)).trans st10⟩⟩
          · rw [if_pos (eq0 c1)] at r6
            exact ⟨_, _, _, _, _, _, ws, acc, rfl, hp6, hz6, ht6, hw6, by omega, by omega, r6⟩
end Wk
set_option Elab.async false
set_option linter.all false
set_option maxRecDepth 100000
set_option maxHeartbeats 4000000
/-! Asks. -/
namespace Wk
open PySem PySem.Spec PyProof.Rows L2 Pv Ph
/-! ### asks in the heap -/
def askCls : Ask → Str
  | .find _ => "Find"
  | .stretch _ _ => "Stretch"
  | .count _ _ => "Count"
  | .nth _ => "Nth"
  | .put _ _ => "Put"
  | .cut _ => "Cut"
def askFs (H : Hp) (fs : List (Str × V)) : Ask → Prop
  | .find key => ∃ x, fs = [(("key" : Str), x)] ∧ IsT H x key
  | .stretch low high => ∃ x y, fs = [(("low" : Str), x), (("high" : Str), y)] ∧ IsT H x low ∧ IsT H y high
  | .count low high => ∃ x y, fs = [(("low" : Str), x), (("high" : Str), y)] ∧ IsT H x low ∧ IsT H y high
  | .nth n => fs = [(("number" : Str), .int n)]
  | .put key worth => ∃ x y, fs = [(("key" : Str), x), (("worth" : Str), y)] ∧ IsT H x key ∧ IsT H y worth
  | .cut key => ∃ x, fs = [(("key" : Str), x)] ∧ IsT H x key
def AskV (K : PySem.W.Frag) (H : Hp) (x : V) (ask : Ask) : Prop := ∃ a dx fs, x = .ref a ∧ H a = some (.ins (ad K (askCls ask)) dx fs) ∧ askFs H fs ask
theorem askFs.ext {H H' : Hp} (t : Tups H H') {fs : List (Str × V)} {ask : Ask} (h : askFs H fs ask) : askFs H' fs ask := by
  cases ask with
  | find k => obtain ⟨x, e, h⟩ := h; exact ⟨x, e, h.ext t⟩
  | cut k => obtain ⟨x, e, h⟩ := h; exact ⟨x, e, h.ext t⟩
  | stretch l h' => obtain ⟨x, y, e, h, g⟩ := h; exact ⟨x, y, e, h.ext t, g.ext t⟩
  | count l h' => obtain ⟨x, y, e, h, g⟩ := h; exact ⟨x, y, e, h.ext t, g.ext t⟩
  | put l h' => obtain ⟨x, y, e, h, g⟩ := h; exact ⟨x, y, e, h.ext t, g.ext t⟩
  | nth n => exact h
/-- instances and tuples and lists kept -/
theorem AskV.ext {K : PySem.W.Frag} {H H' : Hp} (i : InsK H H') (t : Tups H H') {x : V} {ask : Ask} (h : AskV K H x ask) : AskV K H' x ask := by
  obtain ⟨a, dx, fs, e, ha, hf⟩ := h
  exact ⟨a, dx, fs, e, i _ _ _ _ ha, hf.ext t⟩
def QsV (K : PySem.W.Frag) (H : Hp) (x : V) : Qs → Prop
  | .one a => AskV K H x a
  | .also l => ∃ a dx p xs, x = .ref a ∧ H a = some (.ins (ad K "Also") dx [("asks", .ref p)]) ∧ H p = some (.lst xs) ∧ Paired (AskV K H) xs l
def Lsts (H H' : Hp) : Prop := ∀ a xs, H a = some (.lst xs) → H' a = some (.lst xs)
theorem QsV.ext {K : PySem.W.Frag} {H H' : Hp} (i : InsK H H') (t : Tups H H') (l : Lsts H H') {x : V} {q : Qs} (h : QsV K H x q) : QsV K H' x q := by
  cases q with
  | one a => exact AskV.ext i t h
  | also l' =>
    obtain ⟨a, dx, p, xs, e, ha, hp, hx⟩ := h
    exact ⟨a, dx, p, xs, e, i _ _ _ _ ha, l _ _ hp, Paired.mapP hx fun _ _ z => z.ext i t⟩
theorem Step.insk {M : List Addr} {H H' : Hp} (st : Step M H H') (hM : ∀ d ∈ M, ∃ kvs, H d = some (.dK kvs)) : InsK H H' := fun a C dx fs e => st.keep hM e fun _ z => nomatch z
theorem Step.lsts {M : List Addr} {H H' : Hp} (st : Step M H H') (hM : ∀ d ∈ M, ∃ kvs, H d = some (.dK kvs)) : Lsts H H' := fun a xs e => st.keep hM e fun _ z => nomatch z
theorem Same.lsts {H H' : Hp} (s : Same H H') : Lsts H H' := fun a xs e => s _ _ e
theorem Same.tups {H H' : Hp} (s : Same H H') : Tups H H' := fun a xs e => s _ _ e
variable {P : Program} {w : World} {K : PySem.W.Frag} {mg : Str → Option Value} {base : Heap}
def spI1 (K : PySem.W.Frag) (C f : Str) : Sp := fun vs H Q _ => ∃ a dx x, vs = [.ref a, x] ∧ H a = some (.ins (ad K C) dx []) ∧ ∀ H', But a H H' → H' a = some (.ins (ad K C) dx [(f, x)]) → Q .non H'
def spI2 (K : PySem.W.Frag) (C f g : Str) : Sp := fun vs H Q _ => ∃ a dx x y, vs = [.ref a, x, y] ∧ H a = some (.ins (ad K C) dx []) ∧ ∀ H', But a H H' → H' a = some (.ins (ad K C) dx [(f, x), (g, y)]) → Q .non H'
theorem Tups.refl (H : Hp) : Tups H H := fun _ _ e => e
theorem Tups.trans {H H1 H2 : Hp} (a : Tups H H1) (b : Tups H1 H2) : Tups H H2 := fun c xs e => b c xs (a c xs e)
theorem Same.ne {H H' : Hp} (s : Same H H') {a : Addr} (h : H a ≠ none) : H' a ≠ none := by
  cases e : H a with
  | none => exact absurd e h
  | some o => rw [s _ _ e]; exact fun z => nomatch z
/-! ### answers none of whose lists stands in S -/
mutual
inductive IsAx (S : Addr → Prop) (H : Hp) : V → An → Prop
  | th {v : V} {t : Th} : IsT H v t → IsAx S H v (.th t)
  | lst {a : Addr} {xs : List V} {l : List An} : ¬ S a → H a = some (.lst xs) → IsAxs S H xs l → IsAx S H (.ref a) (.lst l)
inductive IsAxs (S : Addr → Prop) (H : Hp) : List V → List An → Prop
  | nil : IsAxs S H [] []
  | cons {x : V} {t : An} {xs : List V} {ts : List An} : IsAx S H x t → IsAxs S H xs ts → IsAxs S H (x :: xs) (t :: ts)
end
mutual
theorem IsAx.isa {S : Addr → Prop} {H : Hp} : ∀ {t : An} {v : V}, IsAx S H v t → IsA H v t
  | .th t, _, h => by
    cases h with
    | th h => exact .th h
  | .lst l, _, h => by
    cases h with
    | lst _ h1 h2 => exact .lst h1 (IsAxs.isa h2)
theorem IsAxs.isa {S : Addr → Prop} {H : Hp} : ∀ {ts : List An} {xs : List V}, IsAxs S H xs ts → IsAs H xs ts
  | [], _, h => by cases h; exact .nil
  | t :: ts, _, h => by
    cases h with
    | cons h1 h2 => exact .cons (IsAx.isa h1) (IsAxs.isa h2)
end
mutual
theorem IsAx.go {S S' : Addr → Prop} {H H' : Hp} (e : Tups H H') (hs : ∀ a, S' a → S a) (hl : ∀ a xs, ¬ S a → H a = some (.lst xs) → H' a = some (.lst xs)) : ∀ {t : An} {v : V}, IsAx S H v t → IsAx S' H' v t
  | .th t, _, h => by
    cases h with
    | th h => exact .th (h.ext e)
  | .lst l, _, h => by
    cases h with
    | lst h0 h1 h2 => exact .lst (fun z => h0 (hs _ z)) (hl _ _ h0 h1) (IsAxs.go e hs hl h2)
theorem IsAxs.go {S S' : Addr → Prop} {H H' : Hp} (e : Tups H H') (hs : ∀ a, S' a → S a) (hl : ∀ a xs, ¬ S a → H a = some (.lst xs) → H' a = some (.lst xs)) : ∀ {ts : List An} {xs : List V}, IsAxs S H xs ts → IsAxs S' H' xs ts
  | [], _, h => by cases h; exact .nil
  | t :: ts, _, h => by
    cases h with
    | cons h1 h2 => exact .cons (IsAx.go e hs hl h1) (IsAxs.go e hs hl h2)
end
theorem IsAxs.snoc {S : Addr → Prop} {H : Hp} {x : V} {t : An} (hx : IsAx S H x t) : ∀ {ts : List An} {xs : List V}, IsAxs S H xs ts → IsAxs S H (xs ++ [x]) (ts ++ [t])
  | [], _, h => by cases h; exact .cons hx .nil
  | t :: ts, _, h => by
    cases h with
    | cons h1 h2 => exact .cons h1 (IsAxs.snoc hx h2)
theorem IsAxs.ths {S : Addr → Prop} {H : Hp} : ∀ {ts : List Th} {xs : List V}, IsTs H xs ts → IsAxs S H xs (ts.map An.th)
  | [], _, h => by cases h; exact .nil
  | t :: ts, _, h => by
    cases h with
    | cons h1 h2 => exact .cons (.th h1) (IsAxs.ths h2)
/-- lists nested at most n deep, none long -/
def Nst : Nat → An → Prop
  | _, .th _ => True
  | 0, .lst _ => False
  | n + 1, .lst l => l.length ≤ 1000 ∧ ∀ a ∈ l, Nst n a
theorem Nst.ths {n : Nat} {ts : List Th} (h : ts.length ≤ 1000) : Nst (n + 1) (.lst (ts.map An.th)) := ⟨by rw [List.length_map]; exact h, fun a ha => by
  obtain ⟨t, _, rfl⟩ := List.mem_map.mp ha
  cases n <;> exact True.intro⟩
/-- an ask's answer: a thing, or a new list of things -/
def AnsR (H H' : Hp) (x : V) (an : An) : Prop := (∃ t, an = .th t ∧ IsT H' x t) ∨ ∃ p xs ts, x = .ref p ∧ H p = none ∧ ts.length ≤ 1000 ∧ an = .lst (ts.map An.th) ∧ H' p = some (.lst xs) ∧ IsTs H' xs ts
theorem AnsR.isa {H H' : Hp} {x : V} {an : An} (h : AnsR H H' x an) : IsA H' x an := by
  rcases h with ⟨t, rfl, h⟩ | ⟨p, xs, ts, rfl, _, _, rfl, hp, hx⟩
  · exact .th h
  · exact .lst hp (IsAs.ths hx)
def spAns (K : PySem.W.Frag) (C : Str) : Sp := fun vs H Q E => ∃ x v root ask, vs = [x, v, .int root] ∧ askCls ask = C ∧ AskV K H x ask ∧ ask.Ok ∧ Does K H v (ask.one root) (AnsR H) Q E
theorem fo_Find_init (T : Tx K mg) : Fo P w K mg base CX0 1 (am K "Find" "__init__") (spI1 K "Find" "key") := by
  have S : FnScope ["self", "key"] ["self", "key"] (defScope (inner (top 77) 0)) := ⟨rfl, rfl, rfl, by decide +kernel, rfl, by decide +kernel, by decide +kernel⟩
  refine T.d_Find_init.ok S (fun _ _ _ _ _ _ us hl => match us, hl with | [_, _], _ => rfl) (fun vs H Q E h => by obtain ⟨a, dx, x0, rfl, _⟩ := h; rfl) (fun cdv A outer s H vs Q E hr h => ⟨_, PSs.nox ((pss_one (ps_fld (pv 0) (pv 1) rfl))), ?_⟩)
  obtain ⟨a, dx, x0, rfl, ha, k⟩ := h
  exact ⟨_, rfl, _, rfl, a, _, dx, _, rfl, ha, T.c_Find, T.f_Find_key, by show 0 < 1000; decide, k _ (fun b o e n => by rw [upd_ne n]; exact e) upd_same⟩
theorem fo_Find_answer (T : Tx K mg) : Fo P w K mg base (L2.CX P w) 11 (am K "Find" "answer") (spAns K "Find") := by
  have S : FnScope ["self", "vault", "root"] ["self", "vault", "root"] (defScope (inner (top 77) 1)) := ⟨rfl, rfl, rfl, by decide +kernel, rfl, by decide +kernel, by decide +kernel⟩
  have F_found : Fo P w K mg base (L2.CX P w) 10 (ad K "found") (spFound K) := fo_found T
  refine T.d_Find_answer.ok S (fun _ _ _ _ _ _ us hl => match us, hl with | [_, _, _], _ => rfl) (fun vs H Q E h => by obtain ⟨x, v, root, ask, rfl, _⟩ := h; rfl) (fun cdv A outer s H vs Q E hr_found h => ⟨_, (pss_one (ps_ret (pe_fn F_found hr_found rfl T.b_found.g passX (pa_cons (pv 1) (pa_cons (pv 2) (pa_cons (pe_fld (pv 0) rfl) pa_nil)))))), ?_⟩)
  obtain ⟨x, v, root, ask, rfl, hC, hA, ok, hD⟩ := h
  cases ask with
  | find key =>
    obtain ⟨a, dx, fs, rfl, ha, hf⟩ := hA
    obtain ⟨x0, rfl, h0⟩ := hf
    obtain ⟨M, hM, r⟩ := hD.start
    refine ⟨_, rfl, _, rfl, _, rfl, a, _, dx, _, _, rfl, ha, T.c_Find, T.f_Find_key, rfl, v, root, x0, key, rfl, h0, Nat.le_trans (Ok.depth ok) (by decide), r.call fun n H1 x st r1 e => ?_⟩
    exact r1.ret (.inl ⟨_, rfl, e⟩)
  | stretch _ _ => exact absurd hC (show ¬ (("Stretch" : Str) = "Find") by decide)
  | count _ _ => exact absurd hC (show ¬ (("Count" : Str) = "Find") by decide)
  | nth _ => exact absurd hC (show ¬ (("Nth" : Str) = "Find") by decide)
  | put _ _ => exact absurd hC (show ¬ (("Put" : Str) = "Find") by decide)
  | cut _ => exact absurd hC (show ¬ (("Cut" : Str) = "Find") by decide)
theorem fo_Stretch_init (T : Tx K mg) : Fo P w K mg base CX0 1 (am K "Stretch" "__init__") (spI2 K "Stretch" "low" "high") := by
  have S : FnScope ["self", "low", "high"] ["self", "low", "high"] (defScope (inner (top 78) 0)) := ⟨rfl, rfl, rfl, by decide +kernel, rfl, by decide +kernel, by decide +kernel⟩
  refine T.d_Stretch_init.ok S (fun _ _ _ _ _ _ us hl => match us, hl with | [_, _, _], _ => rfl) (fun vs H Q E h => by obtain ⟨a, dx, x0, x1, rfl, _⟩ := h; rfl) (fun cdv A outer s H vs Q E hr h => ⟨_, PSs.nox ((pss_cons (ps_fld (pv 0) (pv 1) rfl) (pss_one (ps_fld (pv 0) (pv 2) rfl)))), ?_⟩)
  obtain ⟨a, dx, x0, x1, rfl, ha, k⟩ := h
  exact ⟨_, rfl, _, rfl, a, _, dx, _, rfl, ha, T.c_Stretch, T.f_Stretch_low, by show 0 < 1000; decide, _, rfl, _, rfl, a, _, dx, _, rfl, upd_same, T.c_Stretch, T.f_Stretch_high, by show 1 < 1000; decide, k _ (fun b o e n => by rw [upd_ne n, upd_ne n]; exact e) upd_same⟩
theorem fo_Stretch_answer (T : Tx K mg) : Fo P w K mg base (L2.CX P w) 13 (am K "Stretch" "answer") (spAns K "Stretch") := by
  have S : FnScope ["self", "vault", "root"] ["self", "vault", "root"] (defScope (inner (top 78) 1)) := ⟨rfl, rfl, rfl, by decide +kernel, rfl, by decide +kernel, by decide +kernel⟩
  have F_stretch : Fo P w K mg base (L2.CX P w) 12 (ad K "stretch") (spStretch K) := fo_stretch T
  refine T.d_Stretch_answer.ok S (fun _ _ _ _ _ _ us hl => match us, hl with | [_, _, _], _ => rfl) (fun vs H Q E h => by obtain ⟨x, v, root, ask, rfl, _⟩ := h; rfl) (fun cdv A outer s H vs Q E hr_stretch h => ⟨_, (pss_one (ps_ret (pe_fn F_stretch hr_stretch rfl T.b_stretch.g passX (pa_cons (pv 1) (pa_cons (pv 2) (pa_cons (pe_fld (pv 0) rfl) (pa_cons (pe_fld (pv 0) rfl) pa_nil))))))), ?_⟩)
  obtain ⟨x, v, root, ask, rfl, hC, hA, ok, hD⟩ := h
  cases ask with
  | stretch low high =>
    obtain ⟨a, dx, fs, rfl, ha, hf⟩ := hA
    obtain ⟨x0, x1, rfl, h0, h1⟩ := hf
    obtain ⟨M, hM, r⟩ := hD.start
    refine ⟨_, rfl, _, rfl, _, rfl, a, _, dx, _, _, rfl, ha, T.c_Stretch, T.f_Stretch_low, rfl, _, rfl, a, _, dx, _, _, rfl, ha, T.c_Stretch, T.f_Stretch_high, rfl, v, root, x0, x1, low, high, rfl, h0, h1, Nat.le_trans (Ok.depth ok.1) (by decide), Nat.le_trans (Ok.depth ok.2) (by decide), r.call fun n H1 x st r1 e => ?_⟩
    obtain ⟨p, xs, rfl, fr, hln, hp, hx⟩ := e
    exact r1.ret (.inr ⟨p, xs, _, rfl, fr, by rw [List.length_map]; exact hln, by rw [List.map_map]; rfl, hp, hx⟩)
  | find _ => exact absurd hC (show ¬ (("Find" : Str) = "Stretch") by decide)
  | count _ _ => exact absurd hC (show ¬ (("Count" : Str) = "Stretch") by decide)
  | nth _ => exact absurd hC (show ¬ (("Nth" : Str) = "Stretch") by decide)
  | put _ _ => exact absurd hC (show ¬ (("Put" : Str) = "Stretch") by decide)
  | cut _ => exact absurd hC (show ¬ (("Cut" : Str) = "Stretch") by decide)
theorem fo_Count_init (T : Tx K mg) : Fo P w K mg base CX0 1 (am K "Count" "__init__") (spI2 K "Count" "low" "high") := by
  have S : FnScope ["self", "low", "high"] ["self", "low", "high"] (defScope (inner (top 79) 0)) := ⟨rfl, rfl, rfl, by decide +kernel, rfl, by decide +kernel, by decide +kernel⟩
  refine T.d_Count_init.ok S (fun _ _ _ _ _ _ us hl => match us, hl with | [_, _, _], _ => rfl) (fun vs H Q E h => by obtain ⟨a, dx, x0, x1, rfl, _⟩ := h; rfl) (fun cdv A outer s H vs Q E hr h => ⟨_, PSs.nox ((pss_cons (ps_fld (pv 0) (pv 1) rfl) (pss_one (ps_fld (pv 0) (pv 2) rfl)))), ?_⟩)
  obtain ⟨a, dx, x0, x1, rfl, ha, k⟩ := h
  exact ⟨_, rfl, _, rfl, a, _, dx, _, rfl, ha, T.c_Count, T.f_Count_low, by show 0 < 1000; decide, _, rfl, _, rfl, a, _, dx, _, rfl, upd_same, T.c_Count, T.f_Count_high, by show 1 < 1000; decide, k _ (fun b o e n => by rw [upd_ne n, upd_ne n]; exact e) upd_same⟩
theorem fo_Count_answer (T : Tx K mg) : Fo P w K mg base (L2.CX P w) 12 (am K "Count" "answer") (spAns K "Count") := by
  have S : FnScope ["self", "vault", "root"] ["self", "vault", "root"] (defScope (inner (top 79) 1)) := ⟨rfl, rfl, rfl, by decide +kernel, rfl, by decide +kernel, by decide +kernel⟩
  have F_counted : Fo P w K mg base (L2.CX P w) 11 (ad K "counted") (spCounted K) := fo_counted T
  refine T.d_Count_answer.ok S (fun _ _ _ _ _ _ us hl => match us, hl with | [_, _, _], _ => rfl) (fun vs H Q E h => by obtain ⟨x, v, root, ask, rfl, _⟩ := h; rfl) (fun cdv A outer s H vs Q E hr_counted h => ⟨_, (pss_one (ps_ret (pe_fn F_counted hr_counted rfl T.b_counted.g passX (pa_cons (pv 1) (pa_cons (pv 2) (pa_cons (pe_fld (pv 0) rfl) (pa_cons (pe_fld (pv 0) rfl) pa_nil))))))), ?_⟩)
  obtain ⟨x, v, root, ask, rfl, hC, hA, ok, hD⟩ := h
  cases ask with
  | count low high =>
    obtain ⟨a, dx, fs, rfl, ha, hf⟩ := hA
    obtain ⟨x0, x1, rfl, h0, h1⟩ := hf
    obtain ⟨M, hM, r⟩ := hD.start
    refine ⟨_, rfl, _, rfl, _, rfl, a, _, dx, _, _, rfl, ha, T.c_Count, T.f_Count_low, rfl, _, rfl, a, _, dx, _, _, rfl, ha, T.c_Count, T.f_Count_high, rfl, v, root, x0, x1, low, high, rfl, h0, h1, Nat.le_trans (Ok.depth ok.1) (by decide), Nat.le_trans (Ok.depth ok.2) (by decide), r.call fun n H1 x st r1 e => ?_⟩
    subst e
    exact r1.ret (.inl ⟨_, rfl, .int _⟩)
  | find _ => exact absurd hC (show ¬ (("Find" : Str) = "Count") by decide)
  | stretch _ _ => exact absurd hC (show ¬ (("Stretch" : Str) = "Count") by decide)
  | nth _ => exact absurd hC (show ¬ (("Nth" : Str) = "Count") by decide)
  | put _ _ => exact absurd hC (show ¬ (("Put" : Str) = "Count") by decide)
  | cut _ => exact absurd hC (show ¬ (("Cut" : Str) = "Count") by decide)
theorem fo_Nth_init (T : Tx K mg) : Fo P w K mg base CX0 1 (am K "Nth" "__init__") (spI1 K "Nth" "number") := by
  have S : FnScope ["self", "number"] ["self", "number"] (defScope (inner (top 80) 0)) := ⟨rfl, rfl, rfl, by decide +kernel, rfl, by decide +kernel, by decide +kernel⟩
  refine T.d_Nth_init.ok S (fun _ _ _ _ _ _ us hl => match us, hl with | [_, _], _ => rfl) (fun vs H Q E h => by obtain ⟨a, dx, x0, rfl, _⟩ := h; rfl) (fun cdv A outer s H vs Q E hr h => ⟨_, PSs.nox ((pss_one (ps_fld (pv 0) (pv 1) rfl))), ?_⟩)
  obtain ⟨a, dx, x0, rfl, ha, k⟩ := h
  exact ⟨_, rfl, _, rfl, a, _, dx, _, rfl, ha, T.c_Nth, T.f_Nth_number, by show 0 < 1000; decide, k _ (fun b o e n => by rw [upd_ne n]; exact e) upd_same⟩
theorem fo_Nth_answer (T : Tx K mg) : Fo P w K mg base (L2.CX P w) 7 (am K "Nth" "answer") (spAns K "Nth") := by
  have S : FnScope ["self", "vault", "root"] ["self", "vault", "root"] (defScope (inner (top 80) 1)) := ⟨rfl, rfl, rfl, by decide +kernel, rfl, by decide +kernel, by decide +kernel⟩
  have F_nth : Fo P w K mg base (L2.CX P w) 6 (ad K "nth") (spNth K) := fo_nth T
  refine T.d_Nth_answer.ok S (fun _ _ _ _ _ _ us hl => match us, hl with | [_, _, _], _ => rfl) (fun vs H Q E h => by obtain ⟨x, v, root, ask, rfl, _⟩ := h; rfl) (fun cdv A outer s H vs Q E hr_nth h => ⟨_, (pss_one (ps_ret (pe_fn F_nth hr_nth rfl T.b_nth.g passX (pa_cons (pv 1) (pa_cons (pv 2) (pa_cons (pe_fld (pv 0) rfl) pa_nil)))))), ?_⟩)
  obtain ⟨x, v, root, ask, rfl, hC, hA, ok, hD⟩ := h
  cases ask with
  | nth number =>
    obtain ⟨a, dx, fs, rfl, ha, hf⟩ := hA
    obtain rfl := hf
    obtain ⟨M, hM, r⟩ := hD.start
    refine ⟨_, rfl, _, rfl, _, rfl, a, _, dx, _, _, rfl, ha, T.c_Nth, T.f_Nth_number, rfl, v, root, number, rfl, r.call fun n H1 x st r1 e => ?_⟩
    exact r1.ret (.inl ⟨_, rfl, e⟩)
  | find _ => exact absurd hC (show ¬ (("Find" : Str) = "Nth") by decide)
  | stretch _ _ => exact absurd hC (show ¬ (("Stretch" : Str) = "Nth") by decide)
  | count _ _ => exact absurd hC (show ¬ (("Count" : Str) = "Nth") by decide)
  | put _ _ => exact absurd hC (show ¬ (("Put" : Str) = "Nth") by decide)
  | cut _ => exact absurd hC (show ¬ (("Cut" : Str) = "Nth") by decide)
theorem fo_Put_init (T : Tx K mg) : Fo P w K mg base CX0 1 (am K "Put" "__init__") (spI2 K "Put" "key" "worth") := by
  have S : FnScope ["self", "key", "worth"] ["self", "key", "worth"] (defScope (inner (top 81) 0)) := ⟨rfl, rfl, rfl, by decide +kernel, rfl, by decide +kernel, by decide +kernel⟩
  refine T.d_Put_init.ok S (fun _ _ _ _ _ _ us hl => match us, hl with | [_, _, _], _ => rfl) (fun vs H Q E h => by obtain ⟨a, dx, x0, x1, rfl, _⟩ := h; rfl) (fun cdv A outer s H vs Q E hr h => ⟨_, PSs.nox ((pss_cons (ps_fld (pv 0) (pv 1) rfl) (pss_one (ps_fld (pv 0) (pv 2) rfl)))), ?_⟩)
  obtain ⟨a, dx, x0, x1, rfl, ha, k⟩ := h
  exact ⟨_, rfl, _, rfl, a, _, dx, _, rfl, ha, T.c_Put, T.f_Put_key, by show 0 < 1000; decide, _, rfl, _, rfl, a, _, dx, _, rfl, upd_same, T.c_Put, T.f_Put_worth, by show 1 < 1000; decide, k _ (fun b o e n => by rw [upd_ne n, upd_ne n]; exact e) upd_same⟩
theorem fo_Put_answer (T : Tx K mg) : Fo P w K mg base (L2.CX P w) 12 (am K "Put" "answer") (spAns K "Put") := by
  have S : FnScope ["self", "vault", "root"] ["self", "vault", "root"] (defScope (inner (top 81) 1)) := ⟨rfl, rfl, rfl, by decide +kernel, rfl, by decide +kernel, by decide +kernel⟩
  have F_put : Fo P w K mg base (L2.CX P w) 11 (ad K "put") (spPut K) := fo_put T
  refine T.d_Put_answer.ok S (fun _ _ _ _ _ _ us hl => match us, hl with | [_, _, _], _ => rfl) (fun vs H Q E h => by obtain ⟨x, v, root, ask, rfl, _⟩ := h; rfl) (fun cdv A outer s H vs Q E hr_put h => ⟨_, (pss_one (ps_ret (pe_fn F_put hr_put rfl T.b_put.g passX (pa_cons (pv 1) (pa_cons (pv 2) (pa_cons (pe_fld (pv 0) rfl) (pa_cons (pe_fld (pv 0) rfl) pa_nil))))))), ?_⟩)
  obtain ⟨x, v, root, ask, rfl, hC, hA, ok, hD⟩ := h
  cases ask with
  | put key worth =>
    obtain ⟨a, dx, fs, rfl, ha, hf⟩ := hA
    obtain ⟨x0, x1, rfl, h0, h1⟩ := hf
    obtain ⟨M, hM, r⟩ := hD.start
    refine ⟨_, rfl, _, rfl, _, rfl, a, _, dx, _, _, rfl, ha, T.c_Put, T.f_Put_key, rfl, _, rfl, a, _, dx, _, _, rfl, ha, T.c_Put, T.f_Put_worth, rfl, v, root, x0, x1, key, worth, rfl, h0, h1, ok.1, r.call fun n H1 x st r1 e => ?_⟩
    subst e
    exact r1.ret (.inl ⟨_, rfl, .int _⟩)
  | find _ => exact absurd hC (show ¬ (("Find" : Str) = "Put") by decide)
  | stretch _ _ => exact absurd hC (show ¬ (("Stretch" : Str) = "Put") by decide)
  | count _ _ => exact absurd hC (show ¬ (("Count" : Str) = "Put") by decide)
  | nth _ => exact absurd hC (show ¬ (("Nth" : Str) = "Put") by decide)
  | cut _ => exact absurd hC (show ¬ (("Cut" : Str) = "Put") by decide)
theorem fo_Cut_init (T : Tx K mg) : Fo P w K mg base CX0 1 (am K "Cut" "__init__") (spI1 K "Cut" "key") := by
  have S : FnScope ["self", "key"] ["self", "key"] (defScope (inner (top 82) 0)) := ⟨rfl, rfl, rfl, by decide +kernel, rfl, by decide +kernel, by decide +kernel⟩
  refine T.d_Cut_init.ok S (fun _ _ _ _ _ _ us hl => match us, hl with | [_, _], _ => rfl) (fun vs H Q E h => by obtain ⟨a, dx, x0, rfl, _⟩ := h; rfl) (fun cdv A outer s H vs Q E hr h => ⟨_, PSs.nox ((pss_one (ps_fld (pv 0) (pv 1) rfl))), ?_⟩)
  obtain ⟨a, dx, x0, rfl, ha, k⟩ := h
  exact ⟨_, rfl, _, rfl, a, _, dx, _, rfl, ha, T.c_Cut, T.f_Cut_key, by show 0 < 1000; decide, k _ (fun b o e n => by rw [upd_ne n]; exact e) upd_same⟩
theorem fo_Cut_answer (T : Tx K mg) : Fo P w K mg base (L2.CX P w) 13 (am K "Cut" "answer") (spAns K "Cut") := by
  have S : FnScope ["self", "vault", "root"] ["self", "vault", "root"] (defScope (inner (top 82) 1)) := ⟨rfl, rfl, rfl, by decide +kernel, rfl, by decide +kernel, by decide +kernel⟩
  have F_cut : Fo P w K mg base (L2.CX P w) 12 (ad K "cut") (spCut K) := fo_cut T
  refine T.d_Cut_answer.ok S (fun _ _ _ _ _ _ us hl => match us, hl with | [_, _, _], _ => rfl) (fun vs H Q E h => by obtain ⟨x, v, root, ask, rfl, _⟩ := h; rfl) (fun cdv A outer s H vs Q E hr_cut h => ⟨_, (pss_one (ps_ret (pe_fn F_cut hr_cut rfl T.b_cut.g passX (pa_cons (pv 1) (pa_cons (pv 2) (pa_cons (pe_fld (pv 0) rfl) pa_nil)))))), ?_⟩)
  obtain ⟨x, v, root, ask, rfl, hC, hA, ok, hD⟩ := h
  cases ask with
  | cut key =>
    obtain ⟨a, dx, fs, rfl, ha, hf⟩ := hA
    obtain ⟨x0, rfl, h0⟩ := hf
    obtain ⟨M, hM, r⟩ := hD.start
    refine ⟨_, rfl, _, rfl, _, rfl, a, _, dx, _, _, rfl, ha, T.c_Cut, T.f_Cut_key, rfl, v, root, x0, key, rfl, h0, Nat.le_trans (Ok.depth ok) (by decide), r.call fun n H1 x st r1 e => ?_⟩
    subst e
    exact r1.ret (.inl ⟨_, rfl, .int _⟩)
  | find _ => exact absurd hC (show ¬ (("Find" : Str) = "Cut") by decide)
  | stretch _ _ => exact absurd hC (show ¬ (("Stretch" : Str) = "Cut") by decide)
  | count _ _ => exact absurd hC (show ¬ (("Count" : Str) = "Cut") by decide)
  | nth _ => exact absurd hC (show ¬ (("Nth" : Str) = "Cut") by decide)
  | put _ _ => exact absurd hC (show ¬ (("Put" : Str) = "Cut") by decide)
/-! ### x.answer(v, root), x an ask -/
def tAns (K : PySem.W.Frag) (E : XK) (ta : TE) (t : TA) : TE := fun σ H Q => ∃ x ask, (∀ Q' : VK, Q' x H → ta σ H Q') ∧ AskV K H x ask ∧ t σ H fun vs H2 => spAns K (askCls ask) (x :: vs) H2 Q E
section
variable {X : Cx} {E : XK} {o e : Expr} {es : List Expr} {pos apos : Pos} {ta : TE} {t : TA}
theorem pe_ask {pl : Sem Bool} (T : Tx X.K X.mg) (hr : Room 13 X.A) (hx : Passes (L2.CX X.prog X.w) X E) (he : PE X o ta) (ha : PA X (e :: es) t)
    (hst : starEach (e :: es) X.env = (false, eval e X.env) :: starEach es X.env := by rfl) (hpl : (backTo pos (starEach es X.env)).any (·.1) = false := by rfl)
    (ht : eval (.Call (.Attribute o "answer" apos) (e :: es) [] pos) X.env = (do
      let ov ← eval o X.env
      standAt apos.atName
      let (f, first) ← holding [ov] (getMethod ov "answer" pl)
      callWith pos f first (backTo pos (starEach (e :: es) X.env)) (backToKw pos (keywordEach [] X.env))) := by rfl) :
    PE X (.Call (.Attribute o "answer" apos) (e :: es) [] pos) (tAns X.K E ta t) := by
  refine ⟨fun pins s σ H Q I h => ?_⟩
  obtain ⟨x, ask, h1, ⟨a, dx, fs, rfl, h2, hf⟩, q⟩ := h
  cases ask with
  | find k =>
    obtain ⟨x, rfl, _⟩ := hf
    exact (pe_mt (fo_Find_answer T) (hr.mono (by decide)) he T.c_Find T.m_Find_answer.meth hx ha hst hpl ht).run pins s σ H Q I (h1 _ ⟨a, dx, _, rfl, h2, rfl, q⟩)
  | stretch l h =>
    obtain ⟨x, y, rfl, _⟩ := hf
    exact (pe_mt (fo_Stretch_answer T) (hr.mono (by decide)) he T.c_Stretch T.m_Stretch_answer.meth hx ha hst hpl ht).run pins s σ H Q I (h1 _ ⟨a, dx, _, rfl, h2, rfl, q⟩)
  | count l h =>
    obtain ⟨x, y, rfl, _⟩ := hf
    exact (pe_mt (fo_Count_answer T) (hr.mono (by decide)) he T.c_Count T.m_Count_answer.meth hx ha hst hpl ht).run pins s σ H Q I (h1 _ ⟨a, dx, _, rfl, h2, rfl, q⟩)
  | nth n =>
    obtain rfl := hf
    exact (pe_mt (fo_Nth_answer T) (hr.mono (by decide)) he T.c_Nth T.m_Nth_answer.meth hx ha hst hpl ht).run pins s σ H Q I (h1 _ ⟨a, dx, _, rfl, h2, rfl, q⟩)
  | put k w =>
    obtain ⟨x, y, rfl, _⟩ := hf
    exact (pe_mt (fo_Put_answer T) (hr.mono (by decide)) he T.c_Put T.m_Put_answer.meth hx ha hst hpl ht).run pins s σ H Q I (h1 _ ⟨a, dx, _, rfl, h2, rfl, q⟩)
  | cut k =>
    obtain ⟨x, rfl, _⟩ := hf
    exact (pe_mt (fo_Cut_answer T) (hr.mono (by decide)) he T.c_Cut T.m_Cut_answer.meth hx ha hst hpl ht).run pins s σ H Q I (h1 _ ⟨a, dx, _, rfl, h2, rfl, q⟩)
end
/-! ### Also -/
def spAlsoI (K : PySem.W.Frag) : Sp := fun vs H Q _ => ∃ a dx p xs, vs = [.ref a, .ref p] ∧ H a = some (.ins (ad K "Also") dx []) ∧ H p = some (.lst xs) ∧ ∀ H' l, But a H H' → H l = none → H' l = some (.lst xs) → H' a = some (.ins (ad K "Also") dx [("asks", .ref l)]) → Q .non H'
theorem fo_Also_init (T : Tx K mg) : Fo P w K mg base CX0 1 (am K "Also" "__init__") (spAlsoI K) := by
  have S : FnScope ["self", "asks"] ["self", "asks"] (defScope (inner (top 83) 0)) := ⟨rfl, rfl, rfl, by decide +kernel, rfl, by decide +kernel, by decide +kernel⟩
  refine T.d_Also_init.ok S (fun _ _ _ _ _ _ us hl => match us, hl with | [_, _], _ => rfl) (fun vs H Q E h => by obtain ⟨a, dx, p, xs, rfl, _⟩ := h; rfl) (fun cdv A outer s H vs Q E hr h => ⟨_, PSs.nox ((pss_one (ps_fld (pv 0) (pe_callTy call_list_of (by rfl) T.n_list (by decide +kernel) (pa_cons (pv 1) pa_nil)) rfl))), ?_⟩)
  obtain ⟨a, dx, p, xs, rfl, ha, hp, k⟩ := h
  refine ⟨_, rfl, p, xs, rfl, .inl (SqL.of hp), fun l hl => ?_⟩
  have hla : l ≠ a := fun z => by rw [z, ha] at hl; cases hl
  refine ⟨_, rfl, a, _, dx, _, rfl, by rw [upd_ne (Ne.symm hla)]; exact ha, T.c_Also, T.f_Also_asks, by show 0 < 1000; decide, k _ l (fun b o e n => ?_) hl ?_ upd_same⟩
  · rw [upd_ne n, upd_ne (ne_of_none e hl)]; exact e
  · rw [upd_ne hla]; exact upd_same
/-- an answer that leaves D alone -/
def AnsD (H0 : Hp) (D : Addr) (H' : Hp) (x : V) (an : An) : Prop := (∃ t, an = .th t ∧ IsT H' x t) ∨ ∃ p xs ts, x = .ref p ∧ p ≠ D ∧ H0 p = none ∧ ts.length ≤ 1000 ∧ an = .lst (ts.map An.th) ∧ H' p = some (.lst xs) ∧ IsTs H' xs ts
theorem AnsR.d {H0 H H' : Hp} {x : V} {an : An} (h : AnsR H H' x an) {D : Addr} (hD : H D ≠ none) (hf : ∀ p, H p = none → H0 p = none) : AnsD H0 D H' x an := by
  rcases h with ⟨t, rfl, h⟩ | ⟨p, xs, ts, rfl, fr, ln, rfl, hp, hx⟩
  · exact .inl ⟨t, rfl, h⟩
  · exact .inr ⟨p, xs, ts, rfl, fun z => hD (by rw [← z]; exact fr), hf _ fr, ln, rfl, hp, hx⟩
theorem AnsD.ext {H0 : Hp} {D : Addr} {H H' : Hp} (e : Seqs H H') {x : V} {an : An} (h : AnsD H0 D H x an) : AnsD H0 D H' x an := by
  rcases h with ⟨t, rfl, h⟩ | ⟨p, xs, ts, rfl, ne, fz, ln, rfl, hp, hx⟩
  · exact .inl ⟨t, rfl, h.ext e.1⟩
  · exact .inr ⟨p, xs, ts, rfl, ne, fz, ln, rfl, e.2 _ _ hp, hx.ext e.1⟩
theorem AnsD.up {H0 : Hp} {D : Addr} {H : Hp} {x : V} {an : An} (h : AnsD H0 D H x an) {av av' : List V} (hD : H D = some (.lst av)) : AnsD H0 D (upd H D (.lst av')) x an := by
  have kp : Keeps H (upd H D (.lst av')) := Keeps.list hD
  rcases h with ⟨t, rfl, h⟩ | ⟨p, xs, ts, rfl, ne, fz, ln, rfl, hp, hx⟩
  · exact .inl ⟨t, rfl, h.ext kp.tups⟩
  · exact .inr ⟨p, xs, ts, rfl, ne, fz, ln, rfl, by rw [upd_ne ne]; exact hp, hx.ext kp.tups⟩
theorem AnsD.all {H0 : Hp} {D : Addr} {H : Hp} {av : List V} {acc : List An} (h : Paired (AnsD H0 D H) av acc) : IsAxs (fun E => H0 E ≠ none) H av acc := by
  induction h with
  | nil => exact .nil
  | cons h t ih =>
    refine .cons ?_ ih
    rcases h with ⟨t, rfl, h⟩ | ⟨p, xs, ts, rfl, ne, fz, ln, rfl, hp, hx⟩
    · exact .th h
    · exact .lst (fun z => z fz) hp (IsAxs.ths hx)
theorem AnsD.nst {H0 : Hp} {D : Addr} {H : Hp} {x : V} {an : An} (h : AnsD H0 D H x an) : Nst 1 an := by
  rcases h with ⟨t, rfl, h⟩ | ⟨p, xs, ts, rfl, ne, fz, ln, rfl, hp, hx⟩
  · exact True.intro
  · exact Nst.ths ln
theorem AnsD.nsts {H0 : Hp} {D : Addr} {H : Hp} {av : List V} {acc : List An} (h : Paired (AnsD H0 D H) av acc) : ∀ a ∈ acc, Nst 1 a := by
  induction h with
  | nil => intro a ha; cases ha
  | cons h t ih =>
    intro a ha
    rcases List.mem_cons.mp ha with rfl | ha
    · exact h.nst
    · exact ih a ha
/-- an answer -/
def AnsB (H H' : Hp) (x : V) (an : An) : Prop := IsAx (fun E => H E ≠ none) H' x an ∧ Nst 2 an
def spAlso (K : PySem.W.Frag) : Sp := fun vs H Q E => ∃ x v root l, vs = [x, v, .int root] ∧ QsV K H x (.also l) ∧ (∀ a ∈ l, a.Ok) ∧ l.length ≤ 100 ∧ Does K H v ((Qs.also l).run root) (AnsB H) Q E
theorem IsAs.snoc {H : Hp} {xs : List V} {ts : List An} {x : V} {t : An} (h : IsAs H xs ts) (hx : IsA H x t) : IsAs H (xs ++ [x]) (ts ++ [t]) := h.append (.cons hx .nil)
theorem Step.seqs {M : List Addr} {H H' : Hp} (st : Step M H H') (hM : ∀ d ∈ M, ∃ kvs, H d = some (.dK kvs)) : Seqs H H' := ⟨st.tups hM, st.lsts hM⟩
theorem fo_Also_answer (T : Tx K mg) : Fo P w K mg base (L2.CX P w) 14 (am K "Also" "answer") (spAlso K) := by
  have S : FnScope ["self", "vault", "root", "one"] ["self", "vault", "root"] (defScope (inner (top 83) 1)) := ⟨rfl, rfl, rfl, by decide +kernel, rfl, by decide +kernel, by decide +kernel⟩
  refine T.d_Also_answer.ok S (fun _ _ _ _ _ _ us hl => match us, hl with | [_, _, _], _ => rfl) (fun vs H Q E h => by obtain ⟨x, v, root, l, rfl, _⟩ := h; rfl) (fun cdv A outer s H vs Q E hr13 h => ⟨_, (pss_one (ps_ret (Cmx.pe_lcx (own := [("one", 3)]) (g := gName 3) (tt := tYes) (te := tAns K E (tVar 3) (tCons (tVar 1) (tCons (tVar 2) tNil))) rfl rfl takeX (fun _ _ _ _ h => h) rfl S.nd (pi_list (pe_fld (pv 0) rfl)) (blkOk_by (N := ["self", "vault", "root", "one"]) (sc := defScope (inner (top 83) 1)) (by decide +kernel)) (fun _ _ _ _ _ => pg_name (i := 3) S.nd rfl (Or.inl rfl)) (fun _ _ _ _ _ => pts_nil) (fun _ _ _ _ _ _ px => by exact (pe_ask T hr13 px (pv 3) (pa_cons (pv 1) (pa_cons (pv 2) pa_nil))))))), ?_⟩)
  obtain ⟨x, v, root, l, rfl, hQ, ok, hlen, hD⟩ := h
  obtain ⟨a, dx, p, xs, rfl, ha, hp, hx⟩ := id hQ
  obtain ⟨M, hM, r⟩ := hD.start
  unfold Qs.run at r
  have xlen := Paired.length hx
  refine ⟨_, rfl, a, _, dx, _, _, rfl, ha, T.c_Also, T.f_Also_asks, rfl, p, rfl, ⟨_, SqL.of hp⟩, fun D hD => ?_⟩
  have frD : H D = none := hD
  refine lc_list (xs := xs) (fun i H' => ∃ av acc, Run K H M E v ((manyP root (l.drop i) acc).bind fun ys => .ret (.lst ys)) (fun an s' => ∀ H' x, Step M H H' → VaultAt K H' v s' M → AnsB H H' x an → Q x H') H' ∧ H' D = some (.lst av) ∧ Paired (AnsD H D H') av acc ∧ av.length = i) ?_ ?_ ?_ ?_
  · exact ⟨[], [], by rw [List.drop_zero]; exact r.keep (r.step.up (.inl frD)) (Keeps.of_same (same_put (Same.refl H) hD)), upd_same, .nil, rfl⟩
  · rintro i H1 hi ⟨av, acc, r1, _⟩
    exact SqL.of (r1.step.keep hM hp (fun _ z => nomatch z))
  · rintro i x H1 hx1 ⟨av, acc, r1, hD1, hacc, hl⟩
    obtain ⟨ask, hask, hA⟩ := Paired.at' hx hx1
    rw [drop_at hask] at r1
    unfold manyP at r1
    rw [bind_as] at r1
    have hA1 : AskV K H1 x ask := hA.ext (r1.step.insk hM) (r1.tups hM)
    have hi : i < xs.length := (List.getElem?_eq_some_iff.mp hx1).1
    refine ⟨rfl, x, ask, fun Q' q => ⟨_, rfl, q⟩, hA1, _, rfl, _, rfl, x, v, root, ask, rfl, rfl, hA1, ok ask (List.mem_of_getElem? hask), r1.call fun an H2 y st r2 hy => ?_⟩
    have hD2 := r1.lst st hD1
    have s2 := st.seqs r1.dict
    refine ⟨av, hD2, Nat.lt_of_lt_of_le (show av.length < 101 by omega) (by decide), av ++ [y], acc ++ [an], r2.put hD2 frD, upd_same, ?_, by rw [List.length_append, List.length_singleton, hl]⟩
    have kp : Keeps H2 (upd H2 D (.lst (av ++ [y]))) := Keeps.list hD2
    refine Paired.snoc (Paired.mapP hacc fun _ _ z => (z.ext s2).up hD2) ?_
    exact AnsD.up (hy.d (by rw [hD1]; exact fun z => nomatch z) (fun p e => r1.new e)) hD2
  · rintro H1 ⟨av, acc, r1, hD1, hacc, hl⟩
    rw [xlen, List.drop_length] at r1
    have r1 : Run K H M E v (.ret (An.lst acc)) _ H1 := r1
    exact r1.ret ⟨.lst (fun z => z frD) hD1 (AnsD.all hacc), by rw [← Paired.length hacc]; omega, AnsD.nsts hacc⟩
/-! ### x.answer(v, root), x a question -/
def spQs (K : PySem.W.Frag) : Sp := fun vs H Q E => ∃ x v root q, vs = [x, v, .int root] ∧ QsV K H x q ∧ q.Ok ∧ q.len ≤ 100 ∧ Does K H v (q.run root) (AnsB H) Q E
def tQs (K : PySem.W.Frag) (E : XK) (ta : TE) (t : TA) : TE := fun σ H Q => ∃ x q, (∀ Q' : VK, Q' x H → ta σ H Q') ∧ QsV K H x q ∧ t σ H fun vs H2 => InsK H H2 → spQs K (x :: vs) H2 Q E
end Wk
set_option Elab.async false
set_option linter.all false
set_option maxRecDepth 100000
set_option maxHeartbeats 4000000
/-! Questions; answer_with_paper, checked. -/
namespace Wk
open PySem PySem.Spec PyProof.Rows L2 Pv Ph
theorem AnsR.b {H H' : Hp} {x : V} {an : An} (h : AnsR H H' x an) : AnsB H H' x an := by
  rcases h with ⟨t, rfl, h⟩ | ⟨p, xs, ts, rfl, fr, ln, rfl, hp, hx⟩
  · exact ⟨.th h, True.intro⟩
  · exact ⟨.lst (fun z => z fr) hp (IsAxs.ths hx), Nst.ths ln⟩
theorem AnsB.isa {H H' : Hp} {x : V} {an : An} (h : AnsB H H' x an) : IsA H' x an := h.1.isa
theorem AnsB.back {H0 H H' : Hp} (s : Same H0 H) {x : V} {an : An} (h : AnsB H H' x an) : AnsB H0 H' x an := ⟨h.1.go (Tups.refl _) (fun a z => Same.ne s z) (fun a xs _ e => e), h.2⟩
theorem AnsB.ext {H0 H H' : Hp} (e : Seqs H H') {x : V} {an : An} (h : AnsB H0 H x an) : AnsB H0 H' x an := ⟨h.1.go e.1 (fun a z => z) (fun a xs _ q => e.2 _ _ q), h.2⟩
theorem Does.imp {K : PySem.W.Frag} {H : Hp} {v : V} {α : Type} {p : Pg α} {R R' : Hp → V → α → Prop} {Q : VK} {E : XK} (h : Does K H v p R Q E) (k : ∀ H' x a, R' H' x a → R H' x a) : Does K H v p R' Q E := by
  obtain ⟨M, s, V0, q⟩ := h
  exact ⟨M, s, V0, wq_mono p s (fun a s' z H' x st V1 r => z H' x st V1 (k _ _ _ r)) (fun e z => z) q⟩
/-- a question's answer -/
def spQx (K : PySem.W.Frag) (x : V) (q : Qs) : Sp := fun vs H Q E => ∃ v root, vs = [x, v, .int root] ∧ QsV K H x q ∧ q.Ok ∧ q.len ≤ 100 ∧ Does K H v (q.run root) (AnsB H) Q E
theorem spQx.one {K : PySem.W.Frag} {x : V} {ask : Ask} {vs : List V} {H : Hp} {Q : VK} {E : XK} (h : spQx K x (.one ask) vs H Q E) : spAns K (askCls ask) vs H Q E := by
  obtain ⟨v, root, rfl, hQ, ok, _, hD⟩ := h
  exact ⟨x, v, root, ask, rfl, rfl, hQ, ok, hD.imp fun H' y a z => z.b⟩
theorem spQx.also {K : PySem.W.Frag} {x : V} {l : List Ask} {vs : List V} {H : Hp} {Q : VK} {E : XK} (h : spQx K x (.also l) vs H Q E) : spAlso K vs H Q E := by
  obtain ⟨v, root, rfl, hQ, ok, hl, hD⟩ := h
  exact ⟨x, v, root, l, rfl, hQ, ok, hl, hD⟩
def tQn (K : PySem.W.Frag) (E : XK) (ta : TE) (t : TA) : TE := fun σ H Q => ∃ x q, (∀ Q' : VK, Q' x H → ta σ H Q') ∧ QsV K H x q ∧ t σ H fun vs H2 => spQx K x q (x :: vs) H2 Q E
section
variable {X : Cx} {E : XK} {o e : Expr} {es : List Expr} {pos apos : Pos} {ta : TE} {t : TA}
theorem pe_qs {pl : Sem Bool} (T : Tx X.K X.mg) (hr : Room 14 X.A) (hx : Passes (L2.CX X.prog X.w) X E) (he : PE X o ta) (ha : PA X (e :: es) t)
    (hst : starEach (e :: es) X.env = (false, eval e X.env) :: starEach es X.env := by rfl) (hpl : (backTo pos (starEach es X.env)).any (·.1) = false := by rfl)
    (ht : eval (.Call (.Attribute o "answer" apos) (e :: es) [] pos) X.env = (do
      let ov ← eval o X.env
      standAt apos.atName
      let (f, first) ← holding [ov] (getMethod ov "answer" pl)
      callWith pos f first (backTo pos (starEach (e :: es) X.env)) (backToKw pos (keywordEach [] X.env))) := by rfl) :
    PE X (.Call (.Attribute o "answer" apos) (e :: es) [] pos) (tQn X.K E ta t) := by
  refine ⟨fun pins s σ H Q I h => ?_⟩
  obtain ⟨x, q, h1, hQ, q2⟩ := h
  cases q with
  | one ask =>
    obtain ⟨a, dx, fs, rfl, h2, hf⟩ := hQ
    cases ask with
    | find k =>
      obtain ⟨y, rfl, _⟩ := hf
      exact (pe_mt ((fo_Find_answer T).imp (fun vs H Q E => spQx.one)) (hr.mono (by decide)) he T.c_Find T.m_Find_answer.meth hx ha hst hpl ht).run pins s σ H Q I (h1 _ ⟨a, dx, _, rfl, h2, rfl, q2⟩)
    | stretch l h =>
      obtain ⟨y, z, rfl, _⟩ := hf
      exact (pe_mt ((fo_Stretch_answer T).imp (fun vs H Q E => spQx.one)) (hr.mono (by decide)) he T.c_Stretch T.m_Stretch_answer.meth hx ha hst hpl ht).run pins s σ H Q I (h1 _ ⟨a, dx, _, rfl, h2, rfl, q2⟩)
    | count l h =>
      obtain ⟨y, z, rfl, _⟩ := hf
      exact (pe_mt ((fo_Count_answer T).imp (fun vs H Q E => spQx.one)) (hr.mono (by decide)) he T.c_Count T.m_Count_answer.meth hx ha hst hpl ht).run pins s σ H Q I (h1 _ ⟨a, dx, _, rfl, h2, rfl, q2⟩)
    | nth n =>
      obtain rfl := hf
      exact (pe_mt ((fo_Nth_answer T).imp (fun vs H Q E => spQx.one)) (hr.mono (by decide)) he T.c_Nth T.m_Nth_answer.meth hx ha hst hpl ht).run pins s σ H Q I (h1 _ ⟨a, dx, _, rfl, h2, rfl, q2⟩)
    | put k w =>
      obtain ⟨y, z, rfl, _⟩ := hf
      exact (pe_mt ((fo_Put_answer T).imp (fun vs H Q E => spQx.one)) (hr.mono (by decide)) he T.c_Put T.m_Put_answer.meth hx ha hst hpl ht).run pins s σ H Q I (h1 _ ⟨a, dx, _, rfl, h2, rfl, q2⟩)
    | cut k =>
      obtain ⟨y, rfl, _⟩ := hf
      exact (pe_mt ((fo_Cut_answer T).imp (fun vs H Q E => spQx.one)) (hr.mono (by decide)) he T.c_Cut T.m_Cut_answer.meth hx ha hst hpl ht).run pins s σ H Q I (h1 _ ⟨a, dx, _, rfl, h2, rfl, q2⟩)
  | also l =>
    obtain ⟨a, dx, p, xs, rfl, h2, hp, hx2⟩ := hQ
    exact (pe_mt ((fo_Also_answer T).imp (fun vs H Q E => spQx.also)) hr he T.c_Also T.m_Also_answer.meth hx ha hst hpl ht).run pins s σ H Q I (h1 _ ⟨a, dx, _, rfl, h2, rfl, q2⟩)
end
variable {P : Program} {w : World} {K : PySem.W.Frag} {mg : Str → Option Value} {base : Heap}
/-! ### checked -/
def spChecked (K : PySem.W.Frag) : Sp := fun vs H Q E => ∃ root x p xs ts q, vs = [.int root, x, .ref p] ∧ H p = some (.lst xs) ∧ IsTs H xs ts ∧ QsV K H x q ∧ q.Ok ∧ q.len ≤ 100 ∧
  wq (layAll ts) (.base []) (fun _ s' => wq (q.run root) s' (fun an _ => ∀ H' y, Same H H' → AnsB H H' y an → Q y H') (fun e => ∀ H' cls d, Same H H' → ExR K H' e cls d → E cls d H')) (fun e => ∀ H' cls d, Same H H' → ExR K H' e cls d → E cls d H')
theorem fo_checked (T : Tx K mg) : Fo P w K mg base (L2.CX P w) 15 (ad K "checked") (spChecked K) := by
  have S : FnScope ["root", "ask", "some"] ["root", "ask", "some"] (defScope (top 46)) := ⟨rfl, rfl, rfl, by decide +kernel, rfl, by decide +kernel, by decide +kernel⟩
  have F_Witness : Fo P w K mg base (L2.CX P w) 9 (am K "Witness" "__init__") (spWinit K) := fo_Winit T
  refine T.d_checked.ok S (fun _ _ _ _ _ _ us hl => match us, hl with | [_, _, _], _ => rfl) (fun vs H Q E h => by obtain ⟨root, x, p, xs, ts, q, rfl, _⟩ := h; rfl) (fun cdv A outer s H vs Q E hr14 h => ?_)
  have hr_Witness : Room 10 _ := hr14.mono (by decide)
  refine ⟨_, (pss_one (ps_ret (pe_qs T hr14 passX (pv 1) (pa_cons (pe_mk T.k_Witness.mk_ F_Witness hr_Witness rfl T.b_Witness.g passX (pa_cons (pv 2) pa_nil)) (pa_cons (pv 0) pa_nil))))), ?_⟩
  obtain ⟨root, x, p, xs, ts, q, rfl, hp, hts, hQ, ok, hl, w0⟩ := h
  refine ⟨x, q, fun Q' q => ⟨_, rfl, q⟩, hQ, _, rfl, fun a dx ha hdx ne => ?_⟩
  have hne : ∀ {b o}, H b = some o → b ≠ a := fun e => ne_of_none e ha
  have up : ∀ {b o}, H b = some o → (upd (upd H dx (.own a)) a (.ins (ad K "Witness") dx [])) b = some o := fun e => by
    rw [upd_ne (hne e), upd_ne (ne_of_none e hdx)]
    exact e
  have bs : ∀ {H'}, But a (upd (upd H dx (.own a)) a (.ins (ad K "Witness") dx [])) H' → Same H H' := fun b c o e => b c o (up e) (hne e)
  refine ⟨a, p, dx, xs, ts, rfl, upd_same, up hp, hts.ext fun c ys e => up e, ?_⟩
  refine wq_mono _ _ (fun _ s1 z H1 d bt hd V1 => ⟨rfl, _, rfl, ?_⟩) (fun e z H1 cls d bt ex => z H1 cls d (bs bt) ex) w0
  have s1' := bs bt
  refine ⟨_, root, rfl, hQ.ext (Same.insk s1') (Same.tups s1') (Same.lsts s1'), ok, hl, [d], s1, V1, ?_⟩
  have hd0 : H d = none := by
    cases q : H d with
    | none => rfl
    | some o => rw [up q] at hd; cases hd
  have st2 : ∀ {H2}, Step [d] H1 H2 → Same H H2 := fun st b o e => st b o (s1' b o e) (by
    rw [List.mem_singleton]
    exact ne_of_none e hd0)
  exact wq_mono _ _ (fun an s2 z H2 y st V2 r => z H2 y (st2 st) (r.back s1')) (fun e z H2 cls d st ex => z H2 cls d (st2 st) ex) z
/-! ### answer_with_paper -/
def spAwp (K : PySem.W.Frag) : Sp := fun vs H Q E => ∃ kp kdx kd k root x q, vs = [.ref kp, .int root, x] ∧ H kp = some (.ins (ad K "Keeper") kdx [("by_seal", .ref kd)]) ∧ DictS H kd k ∧ k.Good ∧ QsV K H x q ∧ q.Ok ∧ q.len ≤ 100 ∧
  wq (q.run root) (.reader k [] []) (fun an s' => ∃ o m, s' = .reader k o m ∧ m.length < lim ∧ ∀ H' t y p xs ts, Same H H' → H' t = some (.tup [y, .ref p]) → AnsB H H' y an → H' p = some (.lst xs) → H p = none → IsTs H' xs ts → Things m ts → m.Good → Q (.ref t) H') (fun e => ∀ H' cls d, Same H H' → ExR K H' e cls d → E cls d H')
theorem fo_answer_with_paper (T : Tx K mg) : Fo P w K mg base (L2.CX P w) 15 (ad K "answer_with_paper") (spAwp K) := by
  have S : FnScope ["keeper", "root", "ask", "reader", "told"] ["keeper", "root", "ask"] (defScope (top 45)) := ⟨rfl, rfl, rfl, by decide +kernel, rfl, by decide +kernel, by decide +kernel⟩
  have F_Reader : Fo P w K mg base CX0 2 (am K "Reader" "__init__") (spRinit K) := fo_Rinit T
  have F_Reader_paper : Fo P w K mg base CX0 1 (am K "Reader" "paper") (spThings K "Reader" "noted") := fo_paper T
  refine T.d_answer_with_paper.ok S (fun _ _ _ _ _ _ us hl => match us, hl with | [_, _, _], _ => rfl) (fun vs H Q E h => by obtain ⟨kp, kdx, kd, k, root, x, q, rfl, _⟩ := h; rfl) (fun cdv A outer s H vs Q E hr14 h => ?_)
  have hr_Reader : Room 3 _ := hr14.mono (by decide)
  have hr_Reader_paper : Room 1 _ := hr14.mono (by decide)
  refine ⟨_, (pss_cons (ps_set (i := 3) S.nd rfl (Or.inl rfl) (pe_mk T.k_Reader.mk_ F_Reader hr_Reader rfl T.b_Reader.g pass0 (pa_cons (pv 0) pa_nil))) (pss_cons (ps_set (i := 4) S.nd rfl (Or.inl rfl) (pe_qs T hr14 passX (pv 2) (pa_cons (pv 3) (pa_cons (pv 1) pa_nil)))) (pss_one (ps_ret (pe_tup (pa_cons (pv 4) (pa_cons (pe_mt0 F_Reader_paper hr_Reader_paper (pv 3) T.c_Reader T.m_Reader_paper.meth pass0) pa_nil))))))), ?_⟩
  obtain ⟨kp, kdx, kd, k, root, x, q, rfl, hkp, hkd, gk, hQ, ok, hl, w0⟩ := h
  refine ⟨_, rfl, fun a dx ha hdx ne => ?_⟩
  have hne : ∀ {b o}, H b = some o → b ≠ a := fun e => ne_of_none e ha
  have up : ∀ {b o}, H b = some o → (upd (upd H dx (.own a)) a (.ins (ad K "Reader") dx [])) b = some o := fun e => by
    rw [upd_ne (hne e), upd_ne (ne_of_none e hdx)]
    exact e
  have fr : ∀ {b}, (upd (upd H dx (.own a)) a (.ins (ad K "Reader") dx [])) b = none → H b = none := fun {b} e => by
    cases q : H b with
    | none => rfl
    | some o => rw [up q] at e; cases e
  refine ⟨a, _, dx, rfl, upd_same, fun H1 d e bt ha1 hd1 he1 nde hd he => ⟨rfl, ?_⟩⟩
  have s1 : Same H H1 := fun b o q => bt b o (up q) (hne q)
  obtain ⟨kvs, hkd0, rk⟩ := hkd
  have V1 : VaultAt K H1 (.ref a) (.reader k [] []) [d, e] := .reader ha1 (s1 _ _ hkp) ⟨kvs, s1 _ _ hkd0, rk.ext (Same.tups s1)⟩ ⟨[], hd1, .nil⟩ ⟨[], he1, .nil⟩ (fun z => by rw [z, up hkd0] at hd; cases hd) (fun z => by rw [z, up hkd0] at he; cases he) nde gk .nil .nil
  have st2 : ∀ {H2}, Step [d, e] H1 H2 → Same H H2 := fun st b o q => st b o (s1 b o q) (by
    rw [List.mem_cons, List.mem_singleton]
    rintro (z | z)
    · exact ne_of_none q (fr hd) z
    · exact ne_of_none q (fr he) z)
  refine ⟨x, q, fun Q' q => ⟨_, rfl, q⟩, hQ.ext (Same.insk s1) (Same.tups s1) (Same.lsts s1), _, rfl, _, rfl, _, root, rfl, hQ.ext (Same.insk s1) (Same.tups s1) (Same.lsts s1), ok, hl, [d, e], _, V1, ?_⟩
  refine wq_mono _ _ (fun an s2 z H2 y st V2 r => ?_) (fun e z H2 cls d st ex => z H2 cls d (st2 st) ex) w0
  obtain ⟨o, m, rfl, hm, z⟩ := z
  have hsame := st2 st
  cases V2 with
  | @reader _ dx2 d2 e2 kp2 kdx2 kd2 _ _ _ ha2 hkp2 hk2 ho2 hm2 ne1 ne2 ne3 gk2 go gm =>
    refine ⟨_, rfl, _, rfl, a, dx2, _, rfl, ha2, rfl, a, _, m, rfl, ⟨⟨dx2, _, ha2, rfl⟩, hm2⟩, gm, hm, fun H3 p xs ts s3 hp hx ht tt => ⟨by show 2 ≤ sizeLine; decide, fun t ht3 => ?_⟩⟩
    have s4 := same_put (o := .tup [y, .ref p]) (Same.refl H3) ht3
    exact z _ t y p xs ts (hsame.trans (s3.trans s4)) upd_same ((r.back s1).ext (Same.seqs (s3.trans s4))) (s4 _ _ hx) (hsame.free hp) (ht.same s4) tt gm
end Wk
set_option Elab.async false
set_option linter.all false
set_option maxRecDepth 100000
set_option maxHeartbeats 4000000
/-! The law's helpers: rows. -/
namespace Wk
open PySem PySem.Spec PyProof.Rows L2 Pv Ph
variable {P : Program} {w : World} {K : PySem.W.Frag} {mg : Str → Option Value} {base : Heap}
def RowOk (a b : Int) : Prop := b = 0 ∨ (b = 1 ∧ 0 ≤ a ∧ a < 999999937)
def RowS (H : Hp) (p : Addr) : Prop := ∃ a b, H p = some (.lst [.int a, .int b]) ∧ RowOk a b
/-- digits taken: the row alone has changed -/
structure Tk (p : Addr) (H H' : Hp) : Prop where
  bt : But p H H'
  rw_ : RowS H' p
theorem But.refl (p : Addr) (H : Hp) : But p H H := fun _ _ e _ => e
theorem But.trans {p : Addr} {H H1 H2 : Hp} (a : But p H H1) (b : But p H1 H2) : But p H H2 := fun c o e n => b c o (a c o e n) n
theorem But.of_same {p : Addr} {H H' : Hp} (s : Same H H') : But p H H' := fun b o e _ => s b o e
theorem Tk.trans {p : Addr} {H H1 H2 : Hp} (a : Tk p H H1) (b : Tk p H1 H2) : Tk p H H2 := ⟨a.bt.trans b.bt, b.rw_⟩
theorem RowS.same {H H' : Hp} {p : Addr} (h : RowS H p) (s : Same H H') : RowS H' p := by
  obtain ⟨a, b, e, ok⟩ := h
  exact ⟨a, b, s _ _ e, ok⟩
theorem Tk.same {p : Addr} {H H1 H2 : Hp} (a : Tk p H H1) (b : Same H1 H2) : Tk p H H2 := ⟨a.bt.trans (But.of_same b), a.rw_.same b⟩
theorem Tk.new {p : Addr} {H H' : Hp} (h : RowS H p) (s : Same H H') : Tk p H H' := ⟨But.of_same s, h.same s⟩
theorem Tk.refl {p : Addr} {H : Hp} (h : RowS H p) : Tk p H H := ⟨But.refl p H, h⟩
theorem Tk.tups {p : Addr} {H H' : Hp} (h : RowS H p) (t : Tk p H H') : Tups H H' := fun a xs e => t.bt a _ e fun z => by
  obtain ⟨x, y, q, _⟩ := h
  rw [z, q] at e
  cases e
theorem Tk.free {p b : Addr} {H H' : Hp} (h : RowS H p) (t : Tk p H H') (e : H' b = none) : H b = none := by
  cases q : H b with
  | none => rfl
  | some o =>
    by_cases z : b = p
    · obtain ⟨x, y, q2, _⟩ := t.rw_
      rw [z, q2] at e
      cases e
    · rw [t.bt b o q z] at e; cases e
theorem RowS.isLst {H : Hp} {p : Addr} (h : RowS H p) : ∃ xs, H p = some (.lst xs) := by
  obtain ⟨a, b, e, _⟩ := h
  exact ⟨_, e⟩
def spRow : Sp := fun vs H Q _ => ∃ c : Int, vs = [.int c] ∧ ∀ H' p, Same H H' → H p = none → RowS H' p → Q (.ref p) H'
theorem fo__law_row (T : Tx K mg) : Fo P w K mg base CX0 1 (ad K "_law_row") spRow := by
  have S : FnScope ["cell", "low"] ["cell"] (defScope (top 85)) := ⟨rfl, rfl, rfl, by decide +kernel, rfl, by decide +kernel, by decide +kernel⟩
  refine T.d__law_row.ok S (fun _ _ _ _ _ _ us hl => match us, hl with | [_], _ => rfl) (fun vs H Q E h => by obtain ⟨c, rfl, _⟩ := h; rfl) (fun cdv A outer s H vs Q E hr h => ⟨_, PSs.nox ((pss_cons (ps_if (pt_cmpR op_eq (pe_op op_mod (pv 0) pe_int) pe_int (nomark _)) (pss_one (ps_ret (pe_lst (pa_cons (pe_op op_fdivW (pv 0) pe_int) (pa_cons pe_int pa_nil))))) pss_nil) (pss_cons (ps_set (i := 1) S.nd rfl (Or.inl rfl) (pe_op op_mod (pv 0) pe_int)) (pss_one (ps_ret (pe_lst (pa_cons (pe_op op_mod (pe_op op_add (pe_op op_mul (pe_op op_mod (pe_op op_mul (pv 1) (pv 1)) pe_int) (pe_op op_add (pv 1) pe_int)) pe_int) pe_int) (pa_cons pe_int pa_nil)))))))), ?_⟩)
  obtain ⟨c, rfl, k⟩ := h
  refine ⟨_, rfl, _, _, rfl, rfl, (show (0 : Int) < 2 by decide), rfl, _, rfl, ite2 (fun c1 => ?_) (fun c1 => ?_)⟩
  · refine ⟨_, rfl, _, _, rfl, rfl, wide_div (b := 60) (by decide) (by decide) (by decide) (by decide), by show 2 ≤ sizeLine; decide, fun p hp => ?_⟩
    exact k _ p (same_put (Same.refl H) hp) hp ⟨_, _, upd_same, .inl rfl⟩
  · have b1 := Int.emod_nonneg c (show (999999937 : Int) ≠ 0 by decide)
    have b2 := Int.emod_lt_of_pos c (show (0 : Int) < 999999937 by decide)
    refine ⟨_, rfl, _, _, rfl, rfl, (show (0 : Int) < 999999937 by decide), ?_⟩
    generalize c % 999999937 = l at b1 b2 ⊢
    refine ⟨_, rfl, _, rfl, _, _, rfl, rfl, .inl (by omega), _, _, rfl, rfl, (show (0 : Int) < 999999937 by decide), ?_⟩
    have d1 := Int.emod_nonneg (l * l) (show (999999937 : Int) ≠ 0 by decide)
    have d2 := Int.emod_lt_of_pos (l * l) (show (0 : Int) < 999999937 by decide)
    generalize l * l % 999999937 = m at d1 d2 ⊢
    refine ⟨_, rfl, _, _, rfl, rfl, _, _, rfl, rfl, .inl (by omega), _, _, rfl, rfl, _, _, rfl, rfl, (show (0 : Int) < 999999937 by decide), by show 2 ≤ sizeLine; decide, fun p hp => ?_⟩
    exact k _ p (same_put (Same.refl H) hp) hp ⟨_, _, upd_same, .inr ⟨rfl, Int.emod_nonneg _ (by decide), Int.emod_lt_of_pos _ (by decide)⟩⟩
def spTake (K : PySem.W.Frag) : Sp := fun vs H Q _ => ∃ p m, vs = [.ref p, .int m] ∧ 0 < m ∧ m.natAbs < 2 ^ 110 ∧ RowS H p ∧ ∀ H' n, Tk p H H' → 0 ≤ n → n < m → Q (.int n) H'
theorem fo__law_take (T : Tx K mg) : Fo P w K mg base CX0 1 (ad K "_law_take") (spTake K) := by
  have S : FnScope ["row", "many", "got"] ["row", "many"] (defScope (top 86)) := ⟨rfl, rfl, rfl, by decide +kernel, rfl, by decide +kernel, by decide +kernel⟩
  refine T.d__law_take.ok S (fun _ _ _ _ _ _ us hl => match us, hl with | [_, _], _ => rfl) (fun vs H Q E h => by obtain ⟨p, m, rfl, _⟩ := h; rfl) (fun cdv A outer s H vs Q E hr h => ⟨_, PSs.nox ((pss_cons (ps_if (pt_cmpR op_eq (pe_ix ix_list (pv 0) pe_int (fun _ _ => rfl)) pe_int (nomark _)) (pss_cons (ps_set (i := 2) S.nd rfl (Or.inl rfl) (pe_op op_mod (pe_ix ix_list (pv 0) pe_int (fun _ _ => rfl)) (pv 1))) (pss_cons (ps_asg (pe_op op_fdivW (pe_ix ix_list (pv 0) pe_int (fun _ _ => rfl)) (pv 1)) (pg_sub (pv 0) pe_int set_list)) (pss_one (ps_ret (pv 2))))) pss_nil) (pss_cons (ps_asg (pe_op op_mod (pe_op op_mul (pe_op op_add (pe_ix ix_list (pv 0) pe_int (fun _ _ => rfl)) pe_int) (pe_op op_add (pe_ix ix_list (pv 0) pe_int (fun _ _ => rfl)) pe_int)) pe_int) (pg_sub (pv 0) pe_int set_list)) (pss_one (ps_ret (pe_op op_mod (pe_op op_add (pe_op op_mul (pe_ix ix_list (pv 0) pe_int (fun _ _ => rfl)) (pe_op op_pow pe_int pe_int)) pe_int) (pv 1))))))), ?_⟩)
  obtain ⟨p, m, rfl, hm, hb, ⟨a, b, hp, ok⟩, k⟩ := h
  have bt : ∀ xs, But p H (upd H p (.lst xs)) := fun xs b o e n => by rw [upd_ne n]; exact e
  refine ⟨_, rfl, p, _, _, _, rfl, rfl, SqL.of hp, atI_nat (j := 1) rfl, rfl, _, rfl, ite2 (fun c1 => ?_) (fun c1 => ?_)⟩
  · have hb0 : b = 0 := by have := of_decide_eq_true c1; injection this
    subst hb0
    refine ⟨_, rfl, p, _, _, _, rfl, rfl, SqL.of hp, atI_nat (j := 0) rfl, _, rfl, _, _, rfl, rfl, hm, ?_⟩
    refine ⟨_, rfl, p, _, _, _, rfl, rfl, SqL.of hp, atI_nat (j := 0) rfl, _, rfl, _, _, rfl, rfl, wide_div hm hb (by decide) (by decide), _, rfl, p, _, _, 0, rfl, rfl, hp, rfl, ?_⟩
    exact ⟨_, rfl, k _ _ ⟨bt _, _, _, upd_same, .inl rfl⟩ (Int.emod_nonneg _ (by omega)) (Int.emod_lt_of_pos _ hm)⟩
  · have hb1 : b = 1 ∧ 0 ≤ a ∧ a < 999999937 := by
      rcases ok with z | z
      · exact absurd (decide_eq_true (by rw [z])) c1
      · exact z
    obtain ⟨rfl, a0, a1⟩ := hb1
    refine ⟨_, rfl, p, _, _, _, rfl, rfl, SqL.of hp, atI_nat (j := 0) rfl, _, _, rfl, rfl, _, rfl, p, _, _, _, rfl, rfl, SqL.of hp, atI_nat (j := 0) rfl, _, _, rfl, rfl, _, _, rfl, rfl, .inl (by omega), _, _, rfl, rfl, (show (0 : Int) < 999999937 by decide), ?_⟩
    have d1 := Int.emod_nonneg ((a + 32452843) * (a + 86028121)) (show (999999937 : Int) ≠ 0 by decide)
    have d2 := Int.emod_lt_of_pos ((a + 32452843) * (a + 86028121)) (show (0 : Int) < 999999937 by decide)
    refine ⟨_, rfl, p, _, _, 0, rfl, rfl, hp, rfl, ?_⟩
    refine ⟨_, rfl, p, _, _, _, rfl, rfl, SqL.of upd_same, atI_nat (j := 0) rfl, _, _, rfl, rfl, ⟨by decide, by decide, by decide⟩, _, _, rfl, rfl, .inl ⟨Int.lt_of_lt_of_le (by decide) d1, Int.lt_trans d2 (by decide)⟩, _, _, rfl, rfl, _, rfl, _, _, rfl, rfl, hm, ?_⟩
    exact k _ _ ⟨bt _, _, _, upd_same, .inr ⟨rfl, d1, d2⟩⟩ (Int.emod_nonneg _ (by omega)) (Int.emod_lt_of_pos _ hm)
/-! ### _law_text -/
theorem gName_go {i : Nat} {v : V} {σ : L2.St} {H : Hp} {Q : L2.St → Hp → Prop} (h : Q (σ.set i (some v)) H) : gName i v σ H Q := h
theorem cutSeq' {a b : TS} {D : Ends} {σ : L2.St} {H : Hp} (I : L2.St → Hp → Prop) (rest : ∀ σ1 H1, I σ1 H1 → b D σ1 H1) (main : (∀ σ1 H1, I σ1 H1 → b D σ1 H1) → tSeq a b D σ H) : tSeq a b D σ H := main rest
abbrev signs94 : Str := Str.ofString " !\"#$&'()*+,-./0123456789:;<=>?@ABCDEFGHIJKLMNOPQRSTUVWXYZ[\\]^_`" ++ Str.ofString "abcdefghijklmnopqrstuvwxyz{|}~"
theorem signs_len : signs94.cps.toList.length = 94 := by decide +kernel
theorem signs_ok : ∀ c ∈ signs94.cps.toList, 32 ≤ c ∧ c ≤ 126 ∧ c ≠ 37 := by decide +kernel
theorem str_app (a b : Str) : (a ++ b).cps.toList = a.cps.toList ++ b.cps.toList := by
  show (a.cps ++ b.cps).toList = _
  exact Array.toList_append
abbrev ch (c : Nat) : Str := ⟨#[c]⟩
theorem join_ok' : ∀ ys : List Nat, (Str.join (Str.ofString "") (ys.map ch)).cps.toList = ys
  | [] => rfl
  | [c] => rfl
  | c :: d :: r => by
    have ih := join_ok' (d :: r)
    show ((ch c ++ Str.ofString "") ++ Str.join (Str.ofString "") ((d :: r).map ch)).cps.toList = _
    rw [str_app, str_app, ih]
    rfl
theorem join_ok (ys : List Nat) : (Txt.join (Str.ofString "") (ys.map ch)).cps.toList = ys := by
  show (Builtin.Str.glued (Str.ofString "") (ys.map ch)).cps.toList = _
  rw [StrLaws.glued_eq_join]
  exact join_ok' ys
theorem sum_ch : ∀ ys : List Nat, ((ys.map ch).map (·.length)).sum = ys.length
  | [] => rfl
  | c :: r => by
    rw [List.map_cons, List.map_cons, List.sum_cons, sum_ch r, List.length_cons]
    show 1 + r.length = r.length + 1
    omega
def spText : Sp := fun vs H Q _ => ∃ p, vs = [.ref p] ∧ RowS H p ∧ ∀ H' x, Tk p H H' → OkTx x → Q (.str x) H'
theorem fo__law_text (T : Tx K mg) : Fo P w K mg base CX0 2 (ad K "_law_text") spText := by
  have S : FnScope ["row", "signs", "many", "k"] ["row"] (defScope (top 87)) := ⟨rfl, rfl, rfl, by decide +kernel, rfl, by decide +kernel, by decide +kernel⟩
  have F__law_take : Fo P w K mg base CX0 1 (ad K "_law_take") (spTake K) := fo__law_take T
  refine T.d__law_text.ok S (fun _ _ _ _ _ _ us hl => match us, hl with | [_], _ => rfl) (fun vs H Q E h => by obtain ⟨p, rfl, _⟩ := h; rfl) (fun cdv A outer s H vs Q E hr__law_take h => ⟨_, PSs.nox ((pss_cons (ps_set (i := 1) S.nd rfl (Or.inr rfl) pe_str) (pss_cons (ps_set (i := 1) S.nd rfl (Or.inr rfl) (pe_op op_add_str (pv 1) pe_str)) (pss_cons (ps_set (i := 2) S.nd rfl (Or.inl rfl) (pe_fn F__law_take hr__law_take rfl T.b__law_take.g pass0 (pa_cons (pv 0) (pa_cons pe_int pa_nil)))) (pss_cons (ps_if (pt_cmpR op_eq (pv 2) pe_int (nomark _)) (pss_one (ps_set (i := 2) S.nd rfl (Or.inl rfl) (pe_fn F__law_take hr__law_take rfl T.b__law_take.g pass0 (pa_cons (pv 0) (pa_cons pe_int pa_nil))))) pss_nil) (pss_one (ps_ret (pe_bm PySem.F.plainAttrs_str PySem.F.slot_str_join PySem.F.type_str_join mt_join pe_str (pa_cons (pe_lc (own := [("k", 3)]) (g := gName 3) (tt := tYes) (te := tOp rIxS (tVar 1) (tF (spTake K) E0 (tCons (tVar 0) (tCons (tC (.int 94)) tNil)))) rfl S.nd (pi_range1 rfl T.n_range (pa_cons (pv 2) pa_nil)) (blkOk_by (N := ["row", "signs", "many", "k"]) (sc := defScope (top 87)) (by decide +kernel)) (fun _ _ _ _ _ => pg_name (i := 3) S.nd rfl (Or.inl rfl)) (fun _ _ _ _ _ => pts_nil) (fun _ _ _ _ _ => by exact (pe_ix ix_str (pv 1) (pe_fn F__law_take hr__law_take rfl T.b__law_take.g pass0 (pa_cons (pv 0) (pa_cons pe_int pa_nil))) (fun _ _ => rfl)))) pa_nil))))))))), ?_⟩)
  obtain ⟨p, rfl, hR, k⟩ := h
  refine ⟨_, rfl, _, _, rfl, rfl, by decide +kernel, _, rfl, p, 9, rfl, by decide, by decide, hR, fun H1 m t1 m0 m9 => ?_⟩
  refine gName_go ?_
  dsimp only
  refine cutSeq' (fun σ1 H1 => ∃ m : Int, σ1 = [some (.ref p), some (.str signs94), some (.int m), none] ∧ 0 ≤ m ∧ m ≤ 60 ∧ Tk p H H1) (fun σ1 H1 h => ?_) (fun rest => ?_)
  · obtain ⟨m, rfl, m0, m6, t2⟩ := h
    obtain ⟨n, rfl⟩ := Int.eq_ofNat_of_zero_le m0
    refine ⟨rfl, _, rfl, n, rfl, by omega, by omega, fun D hD => ?_⟩
    have hDp : D ≠ p := fun z => by
      obtain ⟨x, y, q, _⟩ := t2.rw_
      rw [z, q] at hD
      cases hD
    have hD0 : H D = none := t2.free hR hD
    refine lc_range (lo := 0) (n := ((n : Nat) : Int).toNat) (fun i H' => ∃ cs : List Nat, Tk p H H' ∧ H' D = some (.lst ((cs.map ch).map V.str)) ∧ cs.length = i ∧ ∀ c ∈ cs, 32 ≤ c ∧ c ≤ 126 ∧ c ≠ 37) ?_ ?_ ?_
    · exact ⟨[], t2.same (same_put (Same.refl _) hD), upd_same, rfl, fun c hc => by cases hc⟩
    · rintro i H3 hi ⟨cs, t3, h3, hl, hok⟩
      have hi : i < n := hi
      refine ⟨rfl, _, rfl, _, rfl, p, 94, rfl, by decide, by decide, t3.rw_, fun H4 q t4 q0 q9 => ?_⟩
      obtain ⟨j, rfl⟩ := Int.eq_ofNat_of_zero_le q0
      have hj : j < signs94.cps.toList.length := by rw [signs_len]; omega
      have hc := List.getElem?_eq_getElem hj
      have h4 := t4.bt _ _ h3 hDp
      refine ⟨signs94, _, signs94.cps.toList[j], rfl, rfl, by decide +kernel, atI_nat (j := j) hc, _, h4, ?_, cs ++ [signs94.cps.toList[j]], ?_, ?_, ?_, ?_⟩
      · rw [List.length_map, List.length_map]
        exact Nat.lt_of_lt_of_le (show cs.length < 61 by omega) (by decide)
      · refine ⟨fun b o e nb => ?_, ?_⟩
        · rw [upd_ne (ne_of_none e hD0)]
          exact (t3.trans t4).bt b o e nb
        · obtain ⟨x, y, q, ok⟩ := t4.rw_
          exact ⟨x, y, by rw [upd_ne (Ne.symm hDp)]; exact q, ok⟩
      · rw [upd_same, List.map_append, List.map_append]; rfl
      · rw [List.length_append, List.length_singleton, hl]
      · intro c hc
        rcases List.mem_append.mp hc with hc | hc
        · exact hok c hc
        · rw [List.mem_singleton.mp hc]
          exact signs_ok _ (List.getElem_mem hj)
    · rintro H3 ⟨cs, t3, h3, hl, hok⟩
      have hl : cs.length = n := hl
      refine ⟨_, D, cs.map ch, rfl, rfl, .inl (SqL.of h3), ?_, k _ _ t3 ⟨?_, ?_⟩⟩
      · rw [sum_ch, List.length_map]
        show cs.length + cs.length * 0 ≤ 16777216
        omega
      · have e := join_ok cs
        show (Txt.join (Str.ofString "") (cs.map ch)).cps.size ≤ 60
        rw [← Array.length_toList, e]
        omega
      · rw [join_ok cs]
        exact hok
  · refine ⟨_, rfl, rfl, _, rfl, ite2 (fun c => ?_) (fun c => rest _ _ ⟨m, rfl, m0, by omega, t1⟩)⟩
    exact ⟨_, rfl, p, 61, rfl, by decide, by decide, t1.rw_, fun H2 m2 t2 q0 q6 => rest _ _ ⟨m2, rfl, q0, by omega, t1.trans t2⟩⟩
end Wk
set_option Elab.async false
set_option linter.all false
set_option maxRecDepth 100000
set_option maxHeartbeats 4000000
/-! The law's helpers: things. -/
namespace Wk
open PySem PySem.Spec PyProof.Rows L2 Pv Ph
variable {P : Program} {w : World} {K : PySem.W.Frag} {mg : Str → Option Value} {base : Heap}
def spThing : Nat → Sp
  | 0 => fun _ _ _ _ => False
  | n + 1 => fun vs H Q _ => ∃ p, vs = [.ref p, .int n] ∧ n ≤ 2 ∧ RowS H p ∧ ∀ H' x t, Tk p H H' → IsT H' x t → Ok n t → Q x H'
theorem Ok.nums {n : Nat} {i : Int} (h : -1000000000000000000000000000000 ≤ i ∧ i ≤ 1000000000000000000000000000000) : Ok n (.num i) := by
  simp only [Ok, cLEAST]
  omega
theorem Tk.put {p D : Addr} {H H1 : Hp} {o : HO} (hR : RowS H p) (t : Tk p H H1) (hD : H1 D = none) : Tk p H (upd H1 D o) := t.same (same_put (Same.refl H1) hD)
/-- a list of one's own, over the row's turns -/
theorem Tk.up {p D : Addr} {H H1 : Hp} {xs : List V} {o : HO} (t : Tk p H H1) (h0 : H D = none) (hD : D ≠ p) : Tk p H (upd H1 D o) := by
  refine ⟨fun b u e nb => ?_, ?_⟩
  · rw [upd_ne (ne_of_none e h0)]
    exact t.bt b u e nb
  · obtain ⟨x, y, q, ok⟩ := t.rw_
    exact ⟨x, y, by rw [upd_ne (Ne.symm hD)]; exact q, ok⟩
theorem RowS.ne {p D : Addr} {H : Hp} (h : RowS H p) (hD : H D = none) : D ≠ p := fun z => by
  obtain ⟨x, y, q, _⟩ := h
  rw [z, q] at hD
  cases hD
theorem okText {n : Nat} {x : Str} (h : OkTx x) : Ok n (.text x) := by simpa [Ok] using h
theorem eqInt {i j : Int} (c : decide (V.int i = V.int j) = true) : i = j := by have := of_decide_eq_true c; injection this
theorem neInt {i j : Int} (c : ¬ decide (V.int i = V.int j) = true) : i ≠ j := fun z => c (decide_eq_true (by rw [z]))
theorem fo__law_thing (T : Tx K mg) : ∀ n, Fo P w K mg base CX0 (n + 3) (ad K "_law_thing") (spThing n)
  | 0 => by
    have S : FnScope ["row", "deep", "kind", "k"] ["row", "deep"] (defScope (top 88)) := ⟨rfl, rfl, rfl, by decide +kernel, rfl, by decide +kernel, by decide +kernel⟩
    exact T.d__law_thing.ok S (fun _ _ _ _ _ _ us hl => match us, hl with | [_, _], _ => rfl) (fun vs H Q E h => h.elim) (fun cdv A outer s H vs Q E hr h => h.elim)
  | n + 1 => by
    have S : FnScope ["row", "deep", "kind", "k"] ["row", "deep"] (defScope (top 88)) := ⟨rfl, rfl, rfl, by decide +kernel, rfl, by decide +kernel, by decide +kernel⟩
    have F__law_thing : Fo P w K mg base CX0 (n + 3) (ad K "_law_thing") (spThing n) := fo__law_thing T n
    have F__law_take : Fo P w K mg base CX0 1 (ad K "_law_take") (spTake K) := fo__law_take T
    have F__law_text : Fo P w K mg base CX0 2 (ad K "_law_text") spText := fo__law_text T
    refine T.d__law_thing.ok S (fun _ _ _ _ _ _ us hl => match us, hl with | [_, _], _ => rfl) (fun vs H Q E h => by obtain ⟨p, rfl, _⟩ := h; rfl) (fun cdv A outer s H vs Q E hr h => ?_)
    have hr__law_take := hr.mono (show 1 ≤ n + 3 by omega)
    have hr__law_text := hr.mono (show 2 ≤ n + 3 by omega)
    have hr__law_thing := hr
    refine ⟨_, PSs.nox ((pss_cons (ps_set (i := 2) S.nd rfl (Or.inl rfl) (pe_fn F__law_take hr__law_take rfl T.b__law_take.g pass0 (pa_cons (pv 0) (pa_cons pe_int pa_nil)))) (pss_cons (ps_if (pt_cmpR op_eq (pv 2) pe_int (nomark _)) (pss_one (ps_ret (pe_op op_sub (pe_fn F__law_take hr__law_take rfl T.b__law_take.g pass0 (pa_cons (pv 0) (pa_cons pe_int pa_nil))) pe_int))) pss_nil) (pss_cons (ps_if (pt_cmpR op_eq (pv 2) pe_int (nomark _)) (pss_one (ps_ret (pe_op op_sub (pe_fn F__law_take hr__law_take rfl T.b__law_take.g pass0 (pa_cons (pv 0) (pa_cons (pe_op op_add (pe_op op_mul pe_int (pe_op op_pow pe_int pe_int)) pe_int) pa_nil))) (pe_op op_pow pe_int pe_int)))) pss_nil) (pss_cons (ps_if (pt_cmpR op_eq (pv 2) pe_int (nomark _)) (pss_one (ps_ret (pe_ix ix_list (pe_lst (pa_cons pe_str (pa_cons pe_str (pa_cons pe_int (pa_cons (pe_un un_neg pe_int) pa_nil))))) (pe_fn F__law_take hr__law_take rfl T.b__law_take.g pass0 (pa_cons (pv 0) (pa_cons pe_int pa_nil))) (fun _ _ => rfl)))) pss_nil) (pss_cons (ps_if (pt_cmpR op_eq (pv 2) pe_int (nomark _)) (pss_one (ps_ret pe_non)) pss_nil) (pss_cons (ps_if (PW.pt (pw_or (pt_cmpR op_eq (pv 2) pe_int (nomark _)) (pw_or1 (pt_cmpR op_eq (pv 1) pe_int (nomark _))))) (pss_one (ps_ret (pe_fn F__law_text hr__law_text rfl T.b__law_text.g pass0 (pa_cons (pv 0) pa_nil)))) pss_nil) (pss_one (ps_ret (pe_callTy call_tuple_of (by rfl) T.n_tuple (by decide +kernel) (pa_cons (pe_lc (own := [("k", 3)]) (g := gName 3) (tt := tYes) (te := tF (spThing n) E0 (tCons (tVar 0) (tCons (tOp (rI0 fun i j => .int (i - j)) (tVar 1) (tC (.int 1))) tNil))) rfl S.nd (pi_range1 rfl T.n_range (pa_cons (pe_fn F__law_take hr__law_take rfl T.b__law_take.g pass0 (pa_cons (pv 0) (pa_cons pe_int pa_nil))) pa_nil)) (blkOk_by (N := ["row", "deep", "kind", "k"]) (sc := defScope (top 88)) (by decide +kernel)) (fun _ _ _ _ _ => pg_name (i := 3) S.nd rfl (Or.inl rfl)) (fun _ _ _ _ _ => pts_nil) (fun _ _ _ _ _ => by exact (pe_fn F__law_thing hr__law_thing rfl T.b__law_thing.g pass0 (pa_cons (pv 0) (pa_cons (pe_op op_sub (pv 1) pe_int) pa_nil))))) pa_nil))))))))))), ?_⟩
    obtain ⟨p, rfl, n2, hR, k⟩ := h
    refine ⟨_, rfl, p, 7, rfl, by decide, by decide, hR, fun H1 kd t1 k0 k7 => ?_⟩
    refine ⟨_, rfl, rfl, _, rfl, ite2 (fun c => ?_) (fun c => ?_)⟩
    · exact ⟨_, rfl, p, 9, rfl, by decide, by decide, t1.rw_, fun H2 m t2 m0 m9 => ⟨_, _, rfl, rfl, k _ _ (.num (m - 4)) (t1.trans t2) (.int _) (Ok.nums (by omega))⟩⟩
    refine ⟨_, rfl, rfl, _, rfl, ite2 (fun c => ?_) (fun c => ?_)⟩
    · exact ⟨_, rfl, _, _, rfl, rfl, ⟨by decide, by decide, by decide⟩, _, _, rfl, rfl, .inl ⟨by decide, by decide⟩, _, _, rfl, rfl, p, _, rfl, by decide, by decide, t1.rw_, fun H2 m t2 m0 m9 => ⟨_, _, rfl, rfl, ⟨by decide, by decide, by decide⟩, _, _, rfl, rfl, k _ _ (.num (m - 10 ^ (30 : Int).toNat)) (t1.trans t2) (.int _) (Ok.nums (by
        have e : (10 : Int) ^ (30 : Int).toNat = 1000000000000000000000000000000 := by decide
        rw [e] at m9 ⊢
        omega))⟩⟩
    refine ⟨_, rfl, rfl, _, rfl, ite2 (fun c => ?_) (fun c => ?_)⟩
    · refine ⟨_, rfl, by show 4 ≤ sizeLine; decide, fun D hD => ⟨_, rfl, p, 4, rfl, by decide, by decide, (t1.put hR hD).rw_, fun H2 m t2 m0 m9 => ?_⟩⟩
      have h2 := t2.bt D _ upd_same (t1.rw_.ne hD)
      have tt := (t1.put hR hD (o := _)).trans t2
      have c4 : m = 0 ∨ m = 1 ∨ m = 2 ∨ m = 3 := by omega
      rcases c4 with rfl | rfl | rfl | rfl
      · exact ⟨D, _, _, _, rfl, rfl, SqL.of h2, atI_nat (j := 0) rfl, k _ _ (.text "raaAdRnaccsome") tt (.str _) (okText ⟨by decide, by decide⟩)⟩
      · exact ⟨D, _, _, _, rfl, rfl, SqL.of h2, atI_nat (j := 1) rfl, k _ _ (.text "ElmfalQlaasome") tt (.str _) (okText ⟨by decide, by decide⟩)⟩
      · exact ⟨D, _, _, _, rfl, rfl, SqL.of h2, atI_nat (j := 2) rfl, k _ _ (.num 251530379464423) tt (.int _) (Ok.nums (by omega))⟩
      · exact ⟨D, _, _, _, rfl, rfl, SqL.of h2, atI_nat (j := 3) rfl, k _ _ (.num (-1285000000000000000)) tt (.int _) (Ok.nums (by omega))⟩
    refine ⟨_, rfl, rfl, _, rfl, ite2 (fun c => ?_) (fun c => ?_)⟩
    · exact k _ _ .none t1 .non (by unfold Ok; trivial)
    have txt : ∀ Q', (∀ H' x, Tk p H1 H' → OkTx x → Q' (.str x) H') → spText [.ref p] H1 Q' E0 := fun Q' q => ⟨p, rfl, t1.rw_, q⟩
    refine ⟨_, rfl, rfl, _, rfl, ite2 (fun c => ?_) (fun c => ⟨_, rfl, rfl, _, rfl, ite2 (fun c => ?_) (fun c => ?_)⟩)⟩
    · exact iteT ⟨_, rfl, txt _ fun H2 x t2 ok => k _ _ (.text x) (t1.trans t2) (.str _) (okText ok)⟩
    · exact ⟨_, rfl, txt _ fun H2 x t2 ok => k _ _ (.text x) (t1.trans t2) (.str _) (okText ok)⟩
    have hn : n ≠ 0 := fun z => neInt c (by rw [z]; rfl)
    obtain ⟨n, rfl⟩ := Nat.exists_eq_succ_of_ne_zero hn
    have e1 : ((n.succ : Nat) : Int) - 1 = (n : Int) := by omega
    refine ⟨_, rfl, p, 4, rfl, by decide, by decide, t1.rw_, fun H2 m t2 m0 m4 => ?_⟩
    obtain ⟨m, rfl⟩ := Int.eq_ofNat_of_zero_le m0
    have t3 := t1.trans t2
    refine ⟨(m : Int), rfl, by omega, by omega, fun D hD => ?_⟩
    have hDp : D ≠ p := t3.rw_.ne hD
    have hD0 : H D = none := t3.free hR hD
    refine lc_range (lo := 0) (n := ((m : Nat) : Int).toNat) (fun i H' => ∃ xs ts, Tk p H H' ∧ H' D = some (.lst xs) ∧ IsTs H' xs ts ∧ (∀ t ∈ ts, Ok n t) ∧ ts.length = i) ?_ ?_ ?_
    · exact ⟨[], [], t3.put hR hD, upd_same, .nil, fun c hc => (by cases hc), rfl⟩
    · rintro i H3 hi ⟨xs, ts, t4, h3, hts, hok, hl⟩
      have hi : i < m := hi
      refine ⟨rfl, _, rfl, _, rfl, _, _, rfl, rfl, p, by show [V.ref p, V.int (((n.succ : Nat) : Int) - 1)] = [V.ref p, V.int (n : Int)]; rw [e1], by omega, t4.rw_, fun H4 x t t5 hx ok => ?_⟩
      have h4 := t5.bt _ _ h3 hDp
      have kp : Keeps H4 (upd H4 D (.lst (xs ++ [x]))) := Keeps.list h4
      refine ⟨xs, h4, ?_, xs ++ [x], ts ++ [t], (t4.trans t5).up hD0 hDp (xs := xs), upd_same, ?_, ?_, ?_⟩
      · rw [hts.length]
        exact Nat.lt_of_lt_of_le (show ts.length < 5 by omega) (by decide)
      · exact IsTs.snoc ((hts.ext (t5.tups t4.rw_)).ext kp.tups) (hx.ext kp.tups)
      · intro u hu
        rcases List.mem_append.mp hu with hu | hu
        · exact hok u hu
        · rw [List.mem_singleton.mp hu]
          exact ok
      · rw [List.length_append, List.length_singleton, hl]
    · rintro H3 ⟨xs, ts, t4, h3, hts, hok, hl⟩
      have hl : ts.length = m := hl
      refine ⟨D, xs, rfl, .inl ⟨SqL.of h3, fun l hl' => ?_⟩⟩
      have s4 := same_put (o := .tup xs) (Same.refl H3) hl'
      refine k _ _ (.tup ts) (t4.same s4) (.tup upd_same (hts.ext (Same.tups s4))) ?_
      simp only [Ok]
      exact ⟨by omega, by omega, OkAll_iff.mpr hok⟩
/-! ### _law_first -/
def spFirst : Nat → Sp
  | 0 => fun _ _ _ _ => False
  | n + 1 => fun vs H Q _ => ∃ v t, vs = [v] ∧ IsT H v t ∧ Ok n t ∧ n ≤ 3 ∧ ∀ H' x u, Same H H' → IsT H' x u → Ok n u → Q x H'
theorem fo__law_first (T : Tx K mg) : ∀ n, Fo P w K mg base CX0 (n + 1) (ad K "_law_first") (spFirst n)
  | 0 => by
    have S : FnScope ["thing", "one"] ["thing"] (defScope (top 89)) := ⟨rfl, rfl, rfl, by decide +kernel, rfl, by decide +kernel, by decide +kernel⟩
    exact T.d__law_first.ok S (fun _ _ _ _ _ _ us hl => match us, hl with | [_], _ => rfl) (fun vs H Q E h => h.elim) (fun cdv A outer s H vs Q E hr h => h.elim)
  | n + 1 => by
    have S : FnScope ["thing", "one"] ["thing"] (defScope (top 89)) := ⟨rfl, rfl, rfl, by decide +kernel, rfl, by decide +kernel, by decide +kernel⟩
    have F__law_first : Fo P w K mg base CX0 (n + 1) (ad K "_law_first") (spFirst n) := fo__law_first T n
    refine T.d__law_first.ok S (fun _ _ _ _ _ _ us hl => match us, hl with | [_], _ => rfl) (fun vs H Q E h => by obtain ⟨v, t, rfl, _⟩ := h; rfl) (fun cdv A outer s H vs Q E hr__law_first h => ?_)
    have hu6 := hr__law_first.units
    refine ⟨_, PSs.nox ((pss_cons (ps_if (pt_cmpR (op_eqT hu6) (pv 0) pe_str (nomark _)) (pss_one (ps_ret pe_str)) pss_nil) (pss_cons (ps_if (pt_cmpR (op_eqT hu6) (pv 0) (pe_un un_neg pe_int) (nomark _)) (pss_one (ps_ret pe_int)) pss_nil) (pss_cons (ps_if (pt_val (pe_callB call_isi (by rfl) T.n_isinstance (by decide +kernel) (pa_cons (pv 0) (pa_cons (pe_bltn (v := V.ty "tuple") (u := Value.type "tuple") rfl T.n_tuple (by decide +kernel) rfl) pa_nil)))) (pss_one (ps_ret (pe_callTy call_tuple_of (by rfl) T.n_tuple (by decide +kernel) (pa_cons (pe_lc (own := [("one", 1)]) (g := gName 1) (tt := tYes) (te := tF (spFirst n) E0 (tCons (tVar 1) tNil)) rfl S.nd (pi_tup (pv 0)) (blkOk_by (N := ["thing", "one"]) (sc := defScope (top 89)) (by decide +kernel)) (fun _ _ _ _ _ => pg_name (i := 1) S.nd rfl (Or.inl rfl)) (fun _ _ _ _ _ => pts_nil) (fun _ _ _ _ _ => by exact (pe_fn F__law_first hr__law_first rfl T.b__law_first.g pass0 (pa_cons (pv 1) pa_nil)))) pa_nil)))) pss_nil) (pss_one (ps_ret (pv 0))))))), ?_⟩
    obtain ⟨v, t, rfl, hT, ok, n3, k⟩ := h
    have dt : t.depth ≤ 60 := Nat.le_trans ok.depth (by omega)
    refine ⟨_, rfl, t, .text "ElmfalQlaasome", hT, .str _, dt, _, rfl, ite2 (fun c => ?_) (fun c => ?_)⟩
    · exact k H _ (.text "raaAdRnaccsome") (Same.refl H) (.str _) (okText ⟨by decide, by decide⟩)
    refine ⟨_, rfl, _, rfl, t, .num (-1285000000000000000), hT, .int _, dt, _, rfl, ite2 (fun c => ?_) (fun c => ?_)⟩
    · exact k H _ (.num 251530379464423) (Same.refl H) (.int _) (Ok.nums (by omega))
    refine ⟨_, rfl, _, _, _, _, _, rfl, .ty _, tyX hT, kit_ty (kitT _).2.2.1, _, rfl, ite2 (fun c => ?_) (fun c => ?_)⟩
    · cases hT with
      | @tup a xs ts ha hts =>
        simp only [Ok] at ok
        obtain ⟨n0, l40, oks⟩ := ok
        have oks := OkAll_iff.mp oks
        obtain ⟨m, rfl⟩ := Nat.exists_eq_succ_of_ne_zero (show n ≠ 0 by omega)
        refine ⟨_, rfl, a, rfl, ⟨_, SqT.of ha⟩, fun D hD => ?_⟩
        refine lc_tup (xs := xs) (fun i H' => ∃ ys us, Same H H' ∧ H' D = some (.lst ys) ∧ IsTs H' ys us ∧ (∀ t ∈ us, Ok m t) ∧ us.length = i) ?_ ?_ ?_ ?_
        · exact ⟨[], [], same_put (Same.refl H) hD, upd_same, .nil, fun c hc => (by cases hc), rfl⟩
        · rintro i H3 hi ⟨ys, us, s3, _⟩
          exact SqT.of (s3 _ _ ha)
        · rintro i x H3 hx ⟨ys, us, s3, h3, hus, hok, hl⟩
          obtain ⟨t, ht, hT⟩ := hts.get hx
          have hi : i < ts.length := (List.getElem?_eq_some_iff.mp ht).1
          refine ⟨rfl, _, rfl, x, t, rfl, hT.same s3, oks t (List.mem_of_getElem? ht), by omega, fun H4 y u s4 hy ok => ?_⟩
          have h4 := s4 _ _ h3
          have kp : Keeps H4 (upd H4 D (.lst (ys ++ [y]))) := Keeps.list h4
          refine ⟨ys, h4, ?_, ys ++ [y], us ++ [u], same_put (s3.trans s4) hD, upd_same, ?_, ?_, ?_⟩
          · rw [hus.length]
            exact Nat.lt_of_lt_of_le (show us.length < 41 by omega) (by decide)
          · exact IsTs.snoc ((hus.ext (Same.tups s4)).ext kp.tups) (hy.ext kp.tups)
          · intro q hq
            rcases List.mem_append.mp hq with hq | hq
            · exact hok q hq
            · rw [List.mem_singleton.mp hq]
              exact ok
          · rw [List.length_append, List.length_singleton, hl]
        · rintro H3 ⟨ys, us, s3, h3, hus, hok, hl⟩
          refine ⟨D, ys, rfl, .inl ⟨SqL.of h3, fun l hl' => ?_⟩⟩
          have s4 := same_put (o := .tup ys) (Same.refl H3) hl'
          refine k _ _ (.tup us) (s3.trans s4) (.tup upd_same (hus.ext (Same.tups s4))) ?_
          simp only [Ok]
          have := hts.length
          exact ⟨by omega, by omega, OkAll_iff.mpr hok⟩
      | _ => cases c
    · exact ⟨_, rfl, k H _ t (Same.refl H) hT ok⟩
/-! ### _law_some, _law_key -/
/-- a thing of the law's: two deep, not None -/
def Th2 (t : Th) : Prop := Ok 2 t ∧ t ≠ .none
def spSome : Sp := fun vs H Q _ => ∃ p, vs = [.ref p] ∧ RowS H p ∧ ∀ H' x t, Tk p H H' → IsT H' x t → Th2 t → Q x H'
theorem fo__law_some (T : Tx K mg) : Fo P w K mg base CX0 7 (ad K "_law_some") spSome := by
  have S : FnScope ["row", "new"] ["row"] (defScope (top 90)) := ⟨rfl, rfl, rfl, by decide +kernel, rfl, by decide +kernel, by decide +kernel⟩
  have F__law_first : Fo P w K mg base CX0 4 (ad K "_law_first") (spFirst 3) := fo__law_first T 3
  have F__law_thing : Fo P w K mg base CX0 6 (ad K "_law_thing") (spThing 3) := fo__law_thing T 3
  refine T.d__law_some.ok S (fun _ _ _ _ _ _ us hl => match us, hl with | [_], _ => rfl) (fun vs H Q E h => by obtain ⟨p, rfl, _⟩ := h; rfl) (fun cdv A outer s H vs Q E hr__law_thing h => ?_)
  have hr__law_first := hr__law_thing.mono (show 4 ≤ 6 by decide)
  refine ⟨_, PSs.nox ((pss_cons (ps_set (i := 1) S.nd rfl (Or.inl rfl) (pe_fn F__law_first hr__law_first rfl T.b__law_first.g pass0 (pa_cons (pe_fn F__law_thing hr__law_thing rfl T.b__law_thing.g pass0 (pa_cons (pv 0) (pa_cons pe_int pa_nil))) pa_nil))) (pss_cons (ps_if (pt_cmpR op_isN (pv 1) pe_non (nomark _)) (pss_one (ps_ret pe_int)) pss_nil) (pss_one (ps_ret (pv 1)))))), ?_⟩
  obtain ⟨p, rfl, hR, k⟩ := h
  refine ⟨_, rfl, p, rfl, by decide, hR, fun H1 x t t1 hx ok => ⟨x, t, rfl, hx, ok, by decide, fun H2 y u s2 hy oku => ?_⟩⟩
  refine ⟨_, rfl, rfl, _, rfl, ite2 (fun c => ?_) (fun c => ?_)⟩
  · exact k _ _ (.num 7) (t1.same s2) (.int _) ⟨Ok.nums (by omega), fun z => nomatch z⟩
  · rw [dec_non hy, none_dec] at c
    exact ⟨_, rfl, k _ _ u (t1.same s2) hy ⟨oku, of_decide_eq_false (by simpa using c)⟩⟩
/-- the pool -/
structure PoolV (H : Hp) (l : Addr) (ps : List Th) : Prop where
  at_ : ∃ xs, H l = some (.lst xs) ∧ IsTs H xs ps
  ok : ∀ t ∈ ps, Th2 t
  len : ps.length ≤ 1000
theorem PoolV.ext {H H' : Hp} {l : Addr} {ps : List Th} (h : PoolV H l ps) (t : Tups H H') (s : Lsts H H') : PoolV H' l ps := by
  obtain ⟨xs, e, hx⟩ := h.at_
  exact ⟨⟨xs, s _ _ e, hx.ext t⟩, h.ok, h.len⟩
theorem PoolV.tk {p : Addr} {H H' : Hp} {l : Addr} {ps : List Th} (h : PoolV H l ps) (hR : RowS H p) (ne : l ≠ p) (t : Tk p H H') : PoolV H' l ps := by
  obtain ⟨xs, e, hx⟩ := h.at_
  exact ⟨⟨xs, t.bt _ _ e ne, hx.ext (t.tups hR)⟩, h.ok, h.len⟩
def spKey : Sp := fun vs H Q _ => ∃ p l ps, vs = [.ref p, .ref l] ∧ RowS H p ∧ PoolV H l ps ∧ l ≠ p ∧ ∀ H' x t, Tk p H H' → IsT H' x t → Th2 t → Q x H'
theorem fo__law_key (T : Tx K mg) : Fo P w K mg base CX0 8 (ad K "_law_key") spKey := by
  have S : FnScope ["row", "pool"] ["row", "pool"] (defScope (top 94)) := ⟨rfl, rfl, rfl, by decide +kernel, rfl, by decide +kernel, by decide +kernel⟩
  have F__law_take : Fo P w K mg base CX0 1 (ad K "_law_take") (spTake K) := fo__law_take T
  have F__law_some : Fo P w K mg base CX0 7 (ad K "_law_some") spSome := fo__law_some T
  refine T.d__law_key.ok S (fun _ _ _ _ _ _ us hl => match us, hl with | [_, _], _ => rfl) (fun vs H Q E h => by obtain ⟨p, l, ps, rfl, _⟩ := h; rfl) (fun cdv A outer s H vs Q E hr__law_some h => ?_)
  have hr__law_take := hr__law_some.mono (show 1 ≤ 7 by decide)
  have hu6 := hr__law_some.units
  refine ⟨_, PSs.nox ((pss_cons (ps_if (PW.pt (pw_and (pt_cmpR (op_neNil hu6) (pv 1) (pe_lst pa_nil) (nomark _)) (pw_and1 (pt_cmpR op_gt (pe_fn F__law_take hr__law_take rfl T.b__law_take.g pass0 (pa_cons (pv 0) (pa_cons pe_int pa_nil))) pe_int (nomark _))))) (pss_one (ps_ret (pe_ix ix_list (pv 1) (pe_fn F__law_take hr__law_take rfl T.b__law_take.g pass0 (pa_cons (pv 0) (pa_cons (pe_callB call_len_seq (by rfl) T.n_len PySem.boot_len (pa_cons (pv 1) pa_nil)) pa_nil))) (fun _ _ => rfl)))) pss_nil) (pss_one (ps_ret (pe_fn F__law_some hr__law_some rfl T.b__law_some.g pass0 (pa_cons (pv 0) pa_nil)))))), ?_⟩
  obtain ⟨p, l, ps, rfl, hR, hP, ne, k⟩ := h
  obtain ⟨xs, hl, hx⟩ := hP.at_
  have xlen := hx.length
  refine ⟨_, rfl, by show 0 ≤ sizeLine; decide, fun q0 hq0 => ?_⟩
  have s1 := same_put (o := .lst []) (Same.refl H) hq0
  have t1 : Tk p H (upd H q0 (.lst [])) := Tk.new hR s1
  refine ⟨NestedKey.datas ps, .lst (SqL.of (s1 _ _ hl)) (IsTs.dp (hx.ext (Same.tups s1))), .lst (SqL.of upd_same) .nil, datas_plain ps, _, rfl, ?_⟩
  generalize upd H q0 (.lst []) = H1 at s1 t1 ⊢
  have fin : ∀ H2, Tk p H H2 → spSome [.ref p] H2 (fun x H' => Q x H') E0 := fun H2 t2 => ⟨p, rfl, t2.rw_, fun H3 x t t3 hx ok => k _ _ t (t2.trans t3) hx ok⟩
  cases ps with
  | nil => exact iteF (iteF ⟨_, rfl, fin H1 t1⟩)
  | cons a ps =>
    refine iteT ⟨_, rfl, p, 3, rfl, by decide, by decide, t1.rw_, fun H2 m t2 m0 m3 => ⟨_, _, rfl, rfl, _, rfl, ite2 (fun c => ?_) (fun c => ⟨_, rfl, fin H2 (t1.trans t2)⟩)⟩⟩
    have t12 := t1.trans t2
    have hl2 : H2 l = some (.lst xs) := t12.bt _ _ hl ne
    refine ⟨_, rfl, _, rfl, _, rfl, _, _, rfl, .inl (SqL.of hl2), ?_⟩
    rw [xlen]
    refine ⟨p, ((a :: ps).length : Int), rfl, by rw [List.length_cons]; omega, ?_, t12.rw_, fun H3 n t3 n0 nl => ?_⟩
    · have := hP.len
      rw [Int.natAbs_natCast]
      exact Nat.lt_of_le_of_lt this (by decide)
    · obtain ⟨j, rfl⟩ := Int.eq_ofNat_of_zero_le n0
      have hj : j < (a :: ps).length := by omega
      obtain ⟨y, hy, hyT⟩ := hx.get' (List.getElem?_eq_getElem hj)
      have t123 := t12.trans t3
      exact ⟨l, xs, _, y, rfl, rfl, SqL.of (t123.bt _ _ hl ne), atI_nat hy, k _ _ _ t123 (hyT.ext (t123.tups hR)) (hP.ok _ (List.getElem_mem hj))⟩
end Wk
set_option Elab.async false
set_option linter.all false
set_option maxRecDepth 100000
set_option maxHeartbeats 4000000
/-! The law's helpers: asks. -/
namespace Wk
open PySem PySem.Spec PyProof.Rows L2 Pv Ph
variable {P : Program} {w : World} {K : PySem.W.Frag} {mg : Str → Option Value} {base : Heap}
abbrev rInt1 : List V → Hp → VK → Prop := fun xs H Q => (∃ i, xs = [V.int i] ∧ Q (V.int i) H) ∨ ∃ k, xs = [V.bl k] ∧ Q (V.int (if k = true then 1 else 0)) H
/-- [None, _law_key(row, pool)][int(_law_take(row, 4) > 0)] -/
theorem pickT {p l : Addr} {ps : List Th} {σ : L2.St} {H : Hp} {Q : VK} (h0 : σ[0]? = some (some (.ref p))) (h1 : σ[1]? = some (some (.ref l))) (hR : RowS H p) (hP : PoolV H l ps) (ne : l ≠ p)
    (q : ∀ H' x t, Tk p H H' → IsT H' x t → Ok 2 t → Q x H') :
    tOp (rIxL K) (tLst (tCons (tC V.non) (tCons (tF spKey E0 (tCons (tVar 0) (tCons (tVar 1) tNil))) tNil))) (tCB rInt1 (tCons (tOp (rI0 fun i j => V.bl (decide (j < i))) (tF (spTake K) E0 (tCons (tVar 0) (tCons (tC (V.int 4)) tNil))) (tC (V.int 0))) tNil)) σ H Q := by
  refine ⟨_, h0, _, h1, p, l, ps, rfl, hR, hP, ne, fun H2 x t t2 hx ok => ⟨by show 2 ≤ sizeLine; decide, fun D hD => ?_⟩⟩
  have t3 : Tk p H (upd H2 D (.lst [.non, x])) := t2.put hR hD
  refine ⟨_, h0, p, 4, rfl, by decide, by decide, t3.rw_, fun H3 m t4 m0 m4 => ⟨_, _, rfl, rfl, .inr ⟨_, rfl, ?_⟩⟩⟩
  have hD3 := t4.bt D _ upd_same (t2.rw_.ne hD)
  have t5 := t3.trans t4
  by_cases c : 0 < m
  · rw [decide_eq_true c]
    exact ⟨D, _, 1, x, rfl, rfl, SqL.of hD3, atI_nat (j := 1) rfl, q _ _ t t5 ((hx.ext (Same.tups (same_put (Same.refl H2) hD))).ext (t4.tups t3.rw_)) ok.1⟩
  · rw [decide_eq_false c]
    exact ⟨D, _, 0, .non, rfl, rfl, SqL.of hD3, atI_nat (j := 0) rfl, q _ _ .none t5 .non (by unfold Ok; trivial)⟩
/-- x or d -/
theorem orT {i : Nat} {d : Int} {σ : L2.St} {H : Hp} {x : V} {t : Th} {Q : VK} (hd : -1000 ≤ d ∧ d ≤ 1000) (hi : σ[i]? = some (some x)) (hx : IsT H x t) (ok : Ok 2 t) (q : ∀ y u, IsT H y u → Th2 u → Q y H) : tOrT K (tVar i) (tC (.int d)) σ H Q := by
  have alt : Q (.int d) H := q _ (.num d) (.int _) ⟨Ok.nums (by omega), fun z => nomatch z⟩
  refine ⟨x, hi, ?_⟩
  cases hx with
  | non => exact ⟨false, rfl, alt⟩
  | int j =>
    refine ⟨_, rfl, ite2 (fun _ => q _ (.num j) (.int _) ⟨ok, fun z => nomatch z⟩) (fun _ => alt)⟩
  | str y =>
    have oy : OkTx y := by simpa [Ok] using ok
    refine ⟨_, ⟨Nat.le_trans oy.1 (by decide), rfl⟩, ite2 (fun _ => q _ (.text y) (.str _) ⟨ok, fun z => nomatch z⟩) (fun _ => alt)⟩
  | @tup a xs ts ha hts =>
    refine ⟨_, .inr (.inl ⟨xs, SqT.of ha, rfl⟩), ite2 (fun _ => q _ (.tup ts) (.tup ha hts) ⟨ok, fun z => nomatch z⟩) (fun _ => alt)⟩
theorem mk_same {H H' : Hp} {a dx : Addr} {o1 o2 : HO} (ha : H a = none) (hdx : H dx = none) (bt : But a (upd (upd H dx o1) a o2) H') : Same H H' := fun b o e => bt b o (by rw [upd_ne (ne_of_none e ha), upd_ne (ne_of_none e hdx)]; exact e) (ne_of_none e ha)
/-! ### an ask made -/
theorem mkFind {Q : VK} {H : Hp} {t : TA} {σ : L2.St} {x : V} {key : Th} {H0 : Hp} (h : ∀ (Q' : List V → Hp → Prop), Q' [x] H → t σ H0 Q') (hx : IsT H x key) (q : ∀ H' y, Same H H' → AskV K H' y (.find key) → Q y H') : tMk (ad K "Find") (spI1 K "Find" "key") E0 t σ H0 Q :=
  h _ fun a dx ha hdx ne => ⟨a, dx, x, rfl, upd_same, fun H' bt ha' => ⟨rfl, q _ _ (mk_same ha hdx bt) ⟨a, dx, _, rfl, ha', x, rfl, hx.same (mk_same ha hdx bt)⟩⟩⟩
theorem mkCut {Q : VK} {H : Hp} {t : TA} {σ : L2.St} {x : V} {key : Th} {H0 : Hp} (h : ∀ (Q' : List V → Hp → Prop), Q' [x] H → t σ H0 Q') (hx : IsT H x key) (q : ∀ H' y, Same H H' → AskV K H' y (.cut key) → Q y H') : tMk (ad K "Cut") (spI1 K "Cut" "key") E0 t σ H0 Q :=
  h _ fun a dx ha hdx ne => ⟨a, dx, x, rfl, upd_same, fun H' bt ha' => ⟨rfl, q _ _ (mk_same ha hdx bt) ⟨a, dx, _, rfl, ha', x, rfl, hx.same (mk_same ha hdx bt)⟩⟩⟩
theorem mkNth {Q : VK} {H : Hp} {t : TA} {σ : L2.St} {n : Int} {H0 : Hp} (h : ∀ (Q' : List V → Hp → Prop), Q' [.int n] H → t σ H0 Q') (q : ∀ H' y, Same H H' → AskV K H' y (.nth n) → Q y H') : tMk (ad K "Nth") (spI1 K "Nth" "number") E0 t σ H0 Q :=
  h _ fun a dx ha hdx ne => ⟨a, dx, _, rfl, upd_same, fun H' bt ha' => ⟨rfl, q _ _ (mk_same ha hdx bt) ⟨a, dx, _, rfl, ha', rfl⟩⟩⟩
theorem mkPut {Q : VK} {H : Hp} {t : TA} {σ : L2.St} {x y : V} {key worth : Th} {H0 : Hp} (h : ∀ (Q' : List V → Hp → Prop), Q' [x, y] H → t σ H0 Q') (hx : IsT H x key) (hy : IsT H y worth) (q : ∀ H' z, Same H H' → AskV K H' z (.put key worth) → Q z H') : tMk (ad K "Put") (spI2 K "Put" "key" "worth") E0 t σ H0 Q :=
  h _ fun a dx ha hdx ne => ⟨a, dx, x, y, rfl, upd_same, fun H' bt ha' => ⟨rfl, q _ _ (mk_same ha hdx bt) ⟨a, dx, _, rfl, ha', x, y, rfl, hx.same (mk_same ha hdx bt), hy.same (mk_same ha hdx bt)⟩⟩⟩
theorem mkStretch {Q : VK} {H : Hp} {t : TA} {σ : L2.St} {x y : V} {key worth : Th} {H0 : Hp} (h : ∀ (Q' : List V → Hp → Prop), Q' [x, y] H → t σ H0 Q') (hx : IsT H x key) (hy : IsT H y worth) (q : ∀ H' z, Same H H' → AskV K H' z (.stretch key worth) → Q z H') : tMk (ad K "Stretch") (spI2 K "Stretch" "low" "high") E0 t σ H0 Q :=
  h _ fun a dx ha hdx ne => ⟨a, dx, x, y, rfl, upd_same, fun H' bt ha' => ⟨rfl, q _ _ (mk_same ha hdx bt) ⟨a, dx, _, rfl, ha', x, y, rfl, hx.same (mk_same ha hdx bt), hy.same (mk_same ha hdx bt)⟩⟩⟩
theorem mkCount {Q : VK} {H : Hp} {t : TA} {σ : L2.St} {x y : V} {key worth : Th} {H0 : Hp} (h : ∀ (Q' : List V → Hp → Prop), Q' [x, y] H → t σ H0 Q') (hx : IsT H x key) (hy : IsT H y worth) (q : ∀ H' z, Same H H' → AskV K H' z (.count key worth) → Q z H') : tMk (ad K "Count") (spI2 K "Count" "low" "high") E0 t σ H0 Q :=
  h _ fun a dx ha hdx ne => ⟨a, dx, x, y, rfl, upd_same, fun H' bt ha' => ⟨rfl, q _ _ (mk_same ha hdx bt) ⟨a, dx, _, rfl, ha', x, y, rfl, hx.same (mk_same ha hdx bt), hy.same (mk_same ha hdx bt)⟩⟩⟩
def spAsk (K : PySem.W.Frag) : Sp := fun vs H Q _ => ∃ p l ps, vs = [.ref p, .ref l] ∧ RowS H p ∧ PoolV H l ps ∧ l ≠ p ∧ ∀ H' x q, Tk p H H' → QsV K H' x q → q.Ok → q.len ≤ 100 → Q x H'
theorem fo__law_ask (T : Tx K mg) : Fo P w K mg base CX0 9 (ad K "_law_ask") (spAsk K) := by
  have S : FnScope ["row", "pool", "kind", "low", "high", "key"] ["row", "pool"] (defScope (top 95)) := ⟨rfl, rfl, rfl, by decide +kernel, rfl, by decide +kernel, by decide +kernel⟩
  have F__law_take : Fo P w K mg base CX0 1 (ad K "_law_take") (spTake K) := fo__law_take T
  have F__law_some : Fo P w K mg base CX0 7 (ad K "_law_some") spSome := fo__law_some T
  have F__law_key : Fo P w K mg base CX0 8 (ad K "_law_key") spKey := fo__law_key T
  have F_Find := fo_Find_init (P := P) (w := w) (base := base) T
  have F_Stretch := fo_Stretch_init (P := P) (w := w) (base := base) T
  have F_Count := fo_Count_init (P := P) (w := w) (base := base) T
  have F_Nth := fo_Nth_init (P := P) (w := w) (base := base) T
  have F_Put := fo_Put_init (P := P) (w := w) (base := base) T
  have F_Cut := fo_Cut_init (P := P) (w := w) (base := base) T
  have F_Also := fo_Also_init (P := P) (w := w) (base := base) T
  refine T.d__law_ask.ok S (fun _ _ _ _ _ _ us hl => match us, hl with | [_, _], _ => rfl) (fun vs H Q E h => by obtain ⟨p, l, ps, rfl, _⟩ := h; rfl) (fun cdv A outer s H vs Q E hr__law_key h => ?_)
  have hr__law_take := hr__law_key.mono (show 1 ≤ 8 by decide)
  have hr__law_some := hr__law_key.mono (show 7 ≤ 8 by decide)
  have hr2 := hr__law_key.mono (show 2 ≤ 8 by decide)
  have hr_Find := hr2
  have hr_Stretch := hr2
  have hr_Count := hr2
  have hr_Nth := hr2
  have hr_Put := hr2
  have hr_Cut := hr2
  have hr_Also := hr2
  refine ⟨_, PSs.nox ((pss_cons (ps_set (i := 2) S.nd rfl (Or.inl rfl) (pe_fn F__law_take hr__law_take rfl T.b__law_take.g pass0 (pa_cons (pv 0) (pa_cons pe_int pa_nil)))) (pss_cons (ps_set (i := 3) S.nd rfl (Or.inl rfl) (pe_ix ix_list (pe_lst (pa_cons pe_non (pa_cons (pe_fn F__law_key hr__law_key rfl T.b__law_key.g pass0 (pa_cons (pv 0) (pa_cons (pv 1) pa_nil))) pa_nil))) (pe_callTy call_int1 (by rfl) T.n_int (by decide +kernel) (pa_cons (pe_cmpR op_gt (pe_fn F__law_take hr__law_take rfl T.b__law_take.g pass0 (pa_cons (pv 0) (pa_cons pe_int pa_nil))) pe_int (nomark _)) pa_nil)) (fun _ _ => rfl))) (pss_cons (ps_set (i := 4) S.nd rfl (Or.inl rfl) (pe_ix ix_list (pe_lst (pa_cons pe_non (pa_cons (pe_fn F__law_key hr__law_key rfl T.b__law_key.g pass0 (pa_cons (pv 0) (pa_cons (pv 1) pa_nil))) pa_nil))) (pe_callTy call_int1 (by rfl) T.n_int (by decide +kernel) (pa_cons (pe_cmpR op_gt (pe_fn F__law_take hr__law_take rfl T.b__law_take.g pass0 (pa_cons (pv 0) (pa_cons pe_int pa_nil))) pe_int (nomark _)) pa_nil)) (fun _ _ => rfl))) (pss_cons (ps_set (i := 5) S.nd rfl (Or.inl rfl) (pe_fn F__law_key hr__law_key rfl T.b__law_key.g pass0 (pa_cons (pv 0) (pa_cons (pv 1) pa_nil)))) (pss_cons (ps_if (pt_cmpR op_eq (pv 2) pe_int (nomark _)) (pss_one (ps_ret (pe_mk T.k_Find.mk_ F_Find hr_Find rfl T.b_Find.g pass0 (pa_cons (pv 5) pa_nil)))) pss_nil) (pss_cons (ps_if (pt_cmpR op_eq (pv 2) pe_int (nomark _)) (pss_one (ps_ret (pe_mk T.k_Stretch.mk_ F_Stretch hr_Stretch rfl T.b_Stretch.g pass0 (pa_cons (pv 3) (pa_cons (pv 4) pa_nil))))) pss_nil) (pss_cons (ps_if (pt_cmpR op_eq (pv 2) pe_int (nomark _)) (pss_one (ps_ret (pe_mk T.k_Count.mk_ F_Count hr_Count rfl T.b_Count.g pass0 (pa_cons (pv 3) (pa_cons (pv 4) pa_nil))))) pss_nil) (pss_cons (ps_if (pt_cmpR op_eq (pv 2) pe_int (nomark _)) (pss_one (ps_ret (pe_mk T.k_Nth.mk_ F_Nth hr_Nth rfl T.b_Nth.g pass0 (pa_cons (pe_op op_sub (pe_fn F__law_take hr__law_take rfl T.b__law_take.g pass0 (pa_cons (pv 0) (pa_cons (pe_op op_add (pe_callB call_len_seq (by rfl) T.n_len PySem.boot_len (pa_cons (pv 1) pa_nil)) pe_int) pa_nil))) pe_int) pa_nil)))) pss_nil) (pss_cons (ps_if (pt_cmpR op_eq (pv 2) pe_int (nomark _)) (pss_one (ps_ret (pe_mk T.k_Put.mk_ F_Put hr_Put rfl T.b_Put.g pass0 (pa_cons (pv 5) (pa_cons (pe_fn F__law_some hr__law_some rfl T.b__law_some.g pass0 (pa_cons (pv 0) pa_nil)) pa_nil))))) pss_nil) (pss_cons (ps_if (pt_cmpR op_eq (pv 2) pe_int (nomark _)) (pss_one (ps_ret (pe_mk T.k_Cut.mk_ F_Cut hr_Cut rfl T.b_Cut.g pass0 (pa_cons (pv 5) pa_nil)))) pss_nil) (pss_one (ps_ret (pe_mk T.k_Also.mk_ F_Also hr_Also rfl T.b_Also.g pass0 (pa_cons (pe_lst (pa_cons (pe_mk T.k_Put.mk_ F_Put hr_Put rfl T.b_Put.g pass0 (pa_cons (pv 5) (pa_cons (pe_orT (pv 3) (pe_one pe_int)) pa_nil))) (pa_cons (pe_mk T.k_Find.mk_ F_Find hr_Find rfl T.b_Find.g pass0 (pa_cons (pv 5) pa_nil)) (pa_cons (pe_mk T.k_Cut.mk_ F_Cut hr_Cut rfl T.b_Cut.g pass0 (pa_cons (pe_orT (pv 4) (pe_one pe_int)) pa_nil)) (pa_cons (pe_mk T.k_Stretch.mk_ F_Stretch hr_Stretch rfl T.b_Stretch.g pass0 (pa_cons (pv 3) (pa_cons (pv 4) pa_nil))) (pa_cons (pe_mk T.k_Count.mk_ F_Count hr_Count rfl T.b_Count.g pass0 (pa_cons pe_non (pa_cons (pv 4) pa_nil))) pa_nil)))))) pa_nil))))))))))))))), ?_⟩
  obtain ⟨p, l, ps, rfl, hR, hP, ne, k⟩ := h
  refine ⟨_, rfl, p, 7, rfl, by decide, by decide, hR, fun H1 kd t1 k0 k7 => ?_⟩
  refine pickT rfl rfl t1.rw_ (hP.tk hR ne t1) ne fun H2 xl tl t2 hl okl => ?_
  have t12 := t1.trans t2
  refine pickT rfl rfl t12.rw_ (hP.tk hR ne t12) ne fun H3 xh th t3 hh okh => ?_
  have t13 := t12.trans t3
  have hl3 := hl.ext (t3.tups t12.rw_)
  refine ⟨_, rfl, _, rfl, p, l, ps, rfl, t13.rw_, hP.tk hR ne t13, ne, fun H4 xk key t4 hk okk => ?_⟩
  have t14 := t13.trans t4
  have hl4 := hl3.ext (t4.tups t13.rw_)
  have hh4 := hh.ext (t4.tups t13.rw_)
  have hP4 := hP.tk hR ne t14
  have one : ∀ {H'} {y : V} {a : Ask}, Same H4 H' → AskV K H' y a → a.Ok → Q y H' := fun s a ok => k _ _ (.one _) (t14.same s) a ok (by show 1 ≤ 100; decide)
  refine ⟨_, rfl, rfl, _, rfl, ite2 (fun c => ?_) (fun c => ?_)⟩
  · exact mkFind (fun Q' q => ⟨_, rfl, q⟩) hk fun H' y s a => one s a okk.1
  refine ⟨_, rfl, rfl, _, rfl, ite2 (fun c => ?_) (fun c => ?_)⟩
  · exact mkStretch (fun Q' q => ⟨_, rfl, _, rfl, q⟩) hl4 hh4 fun H' y s a => one s a ⟨okl, okh⟩
  refine ⟨_, rfl, rfl, _, rfl, ite2 (fun c => ?_) (fun c => ?_)⟩
  · exact mkCount (fun Q' q => ⟨_, rfl, _, rfl, q⟩) hl4 hh4 fun H' y s a => one s a ⟨okl, okh⟩
  refine ⟨_, rfl, rfl, _, rfl, ite2 (fun c => ?_) (fun c => ?_)⟩
  · obtain ⟨xs, hxs, hx⟩ := hP4.at_
    have hlen := hP.len
    have xl := hx.length
    refine ⟨_, rfl, _, rfl, _, _, rfl, .inl (SqL.of hxs), _, _, rfl, rfl, p, _, rfl, by omega, ?_, t14.rw_, fun H5 m t5 m0 m9 => ⟨_, _, rfl, rfl, fun a dx ha hdx ne => ⟨a, dx, _, rfl, upd_same, fun H' bt ha' => ⟨rfl, ?_⟩⟩⟩⟩
    · exact Nat.lt_of_le_of_lt (show ((xs.length : Int) + 3).natAbs ≤ 1003 by omega) (by decide)
    · exact k _ _ (.one (.nth (m - 1))) ((t14.trans t5).same (mk_same ha hdx bt)) ⟨a, dx, _, rfl, ha', rfl⟩ trivial (by show 1 ≤ 100; decide)
  refine ⟨_, rfl, rfl, _, rfl, ite2 (fun c => ?_) (fun c => ?_)⟩
  · refine ⟨_, rfl, _, rfl, p, rfl, t14.rw_, fun H5 xw wo t5 hw okw => fun a dx ha hdx ne => ⟨a, dx, _, _, rfl, upd_same, fun H' bt ha' => ⟨rfl, ?_⟩⟩⟩
    have s6 := mk_same ha hdx bt
    exact k _ _ (.one (.put key wo)) ((t14.trans t5).same s6) ⟨a, dx, _, rfl, ha', _, _, rfl, (hk.ext (t5.tups t14.rw_)).same s6, hw.same s6⟩ ⟨okk.1, okw.1, okk.2, okw.2⟩ (by show 1 ≤ 100; decide)
  refine ⟨_, rfl, rfl, _, rfl, ite2 (fun c => ?_) (fun c => ?_)⟩
  · exact mkCut (fun Q' q => ⟨_, rfl, q⟩) hk fun H' y s a => one s a okk.1
  refine ⟨_, rfl, orT (by omega) rfl hl4 okl fun y u hy oku => fun a1 d1 ha1 hd1 _ => ⟨a1, d1, _, _, rfl, upd_same, fun H5 b1 i1 => ⟨rfl, ?_⟩⟩⟩
  have s1 := mk_same ha1 hd1 b1
  have A1 : AskV K H5 (.ref a1) (.put key u) := ⟨a1, d1, _, rfl, i1, _, _, rfl, hk.same s1, hy.same s1⟩
  refine mkFind (fun Q' q => ⟨_, rfl, q⟩) (hk.same s1) fun H6 y2 s2 A2 => ?_
  have s12 := s1.trans s2
  refine orT (by omega) rfl (hh4.same s12) okh fun y3 u3 hy3 oku3 => fun a3 d3 ha3 hd3 _ => ⟨a3, d3, _, rfl, upd_same, fun H7 b3 i3 => ⟨rfl, ?_⟩⟩
  have s3 := mk_same ha3 hd3 b3
  have A3 : AskV K H7 (.ref a3) (.cut u3) := ⟨a3, d3, _, rfl, i3, _, rfl, hy3.same s3⟩
  have s13 := s12.trans s3
  refine mkStretch (fun Q' q => ⟨_, rfl, _, rfl, q⟩) (hl4.same s13) (hh4.same s13) fun H8 y4 s4 A4 => ?_
  have s14 := s13.trans s4
  refine mkCount (fun Q' q => ⟨_, rfl, q⟩) (.non) (hh4.same s14) fun H9 y5 s5 A5 => ?_
  have s15 := s14.trans s5
  refine ⟨by show 5 ≤ sizeLine; decide, fun D hD => fun a dx ha hdx ne => ⟨a, dx, D, [.ref a1, y2, .ref a3, y4, y5], rfl, upd_same, ?_, fun H' lst bt hl hl' ha' => ⟨rfl, ?_⟩⟩⟩
  · rw [upd_ne (ne_of_none upd_same ha), upd_ne (ne_of_none upd_same hdx)]
    exact upd_same
  · have s6 := same_put (o := .lst [.ref a1, y2, .ref a3, y4, y5]) (Same.refl H9) hD
    have s7 := mk_same ha hdx bt
    have e := s6.trans s7
    have ex : ∀ {H0 : Hp} {x : V} {a : Ask}, Same H0 H9 → AskV K H0 x a → AskV K H' x a := fun s h => h.ext (Same.insk (s.trans e)) (Same.tups (s.trans e))
    refine k _ _ (.also [.put key u, .find key, .cut u3, .stretch tl th, .count .none th]) (t14.same (s15.trans e)) ⟨a, dx, lst, _, rfl, ha', hl', .cons (ex (s2.trans (s3.trans (s4.trans s5))) A1) (.cons (ex (s3.trans (s4.trans s5)) A2) (.cons (ex (s4.trans s5) A3) (.cons (ex s5 A4) (.cons (ex (Same.refl _) A5) .nil))))⟩ ?_ (by show 5 ≤ 100; decide)
    intro b hb
    simp only [List.mem_cons, List.not_mem_nil, or_false] at hb
    rcases hb with rfl | rfl | rfl | rfl | rfl
    · exact ⟨okk.1, oku.1, okk.2, oku.2⟩
    · exact okk.1
    · exact oku3.1
    · exact ⟨okl, okh⟩
    · exact ⟨by unfold Pv.Ok; trivial, okh⟩
end Wk
set_option Elab.async false
set_option linter.all false
set_option maxRecDepth 100000
set_option maxHeartbeats 4000000
/-! The law's helpers: copy, others, paper_right, own. -/
namespace Wk
open PySem PySem.Spec PyProof.Rows L2 Pv Ph
variable {P : Program} {w : World} {K : PySem.W.Frag} {mg : Str → Option Value} {base : Heap}
theorem take_snoc {α : Type} {l : List α} {i : Nat} {x : α} (h : l[i]? = some x) : l.take (i + 1) = l.take i ++ [x] := by
  obtain ⟨hl, e⟩ := List.getElem?_eq_some_iff.mp h
  rw [List.take_succ_eq_append_getElem hl, e]
/-! ### _law_copy -/
def spCopy : Nat → Sp
  | 0 => fun _ _ _ _ => False
  | n + 1 => fun vs H Q _ => ∃ v an, vs = [v] ∧ IsA H v an ∧ Nst n an ∧ ∀ H' x, Same H H' → IsAx (fun E => H E ≠ none) H' x an → IsA H' x an → Q x H'
theorem fo__law_copy (T : Tx K mg) : ∀ n, Fo P w K mg base CX0 (n + 1) (ad K "_law_copy") (spCopy n)
  | 0 => by
    have S : FnScope ["answer", "one"] ["answer"] (defScope (top 97)) := ⟨rfl, rfl, rfl, by decide +kernel, rfl, by decide +kernel, by decide +kernel⟩
    exact T.d__law_copy.ok S (fun _ _ _ _ _ _ us hl => match us, hl with | [_], _ => rfl) (fun vs H Q E h => h.elim) (fun cdv A outer s H vs Q E hr h => h.elim)
  | n + 1 => by
    have S : FnScope ["answer", "one"] ["answer"] (defScope (top 97)) := ⟨rfl, rfl, rfl, by decide +kernel, rfl, by decide +kernel, by decide +kernel⟩
    have F__law_copy : Fo P w K mg base CX0 (n + 1) (ad K "_law_copy") (spCopy n) := fo__law_copy T n
    refine T.d__law_copy.ok S (fun _ _ _ _ _ _ us hl => match us, hl with | [_], _ => rfl) (fun vs H Q E h => by obtain ⟨v, an, rfl, _⟩ := h; rfl) (fun cdv A outer s H vs Q E hr__law_copy h => ?_)
    refine ⟨_, PSs.nox ((pss_cons (ps_if (pt_val (pe_callB call_isi (by rfl) T.n_isinstance (by decide +kernel) (pa_cons (pv 0) (pa_cons (pe_bltn (v := V.ty "list") (u := Value.type "list") rfl T.n_list (by decide +kernel) rfl) pa_nil)))) (pss_one (ps_ret (pe_lc (own := [("one", 1)]) (g := gName 1) (tt := tYes) (te := tF (spCopy n) E0 (tCons (tVar 1) tNil)) rfl S.nd (pi_list (pv 0)) (blkOk_by (N := ["answer", "one"]) (sc := defScope (top 97)) (by decide +kernel)) (fun _ _ _ _ _ => pg_name (i := 1) S.nd rfl (Or.inl rfl)) (fun _ _ _ _ _ => pts_nil) (fun _ _ _ _ _ => by exact (pe_fn F__law_copy hr__law_copy rfl T.b__law_copy.g pass0 (pa_cons (pv 1) pa_nil)))))) pss_nil) (pss_one (ps_ret (pv 0))))), ?_⟩
    obtain ⟨v, an, rfl, hA, hn, k⟩ := h
    cases hA with
    | @th _ t hT =>
      exact ⟨_, rfl, _, _, _, _, _, rfl, .ty _, tyX hT, kit_ty (kitT _).2.2.2.2, _, rfl, iteF ⟨_, rfl, k H _ (Same.refl H) (.th hT) (.th hT)⟩⟩
    | @lst a xs l ha hts =>
      cases n with
      | zero => exact hn.elim
      | succ n =>
        obtain ⟨l1, ok⟩ := hn
        refine ⟨_, rfl, _, _, _, _, _, rfl, .ty _, .base (.lst ha), kit_ty (show kitB "list" "list" = some true by decide +kernel), _, rfl, iteT ⟨_, rfl, a, rfl, ⟨_, SqL.of ha⟩, fun D hD => ?_⟩⟩
        refine lc_list (xs := xs) (fun i H' => ∃ ys, Same H H' ∧ H' D = some (.lst ys) ∧ IsAxs (fun E => H E ≠ none ∨ E = D) H' ys (l.take i) ∧ ys.length = i) ?_ ?_ ?_ ?_
        · exact ⟨[], same_put (Same.refl H) hD, upd_same, .nil, rfl⟩
        · rintro i H3 hi ⟨ys, s3, _⟩
          exact SqL.of (s3 _ _ ha)
        · rintro i x H3 hx ⟨ys, s3, h3, hys, hl⟩
          obtain ⟨t, ht, hT⟩ := hts.get hx
          have hi : i < l.length := (List.getElem?_eq_some_iff.mp ht).1
          refine ⟨rfl, _, rfl, x, t, rfl, hT.same s3, ok t (List.mem_of_getElem? ht), fun H4 y s4 hy hy' => ?_⟩
          have h4 := s4 _ _ h3
          have kp : Keeps H4 (upd H4 D (.lst (ys ++ [y]))) := Keeps.list h4
          have fl : ∀ a zs, ¬ (H a ≠ none ∨ a = D) → H4 a = some (.lst zs) → (upd H4 D (.lst (ys ++ [y]))) a = some (.lst zs) := fun a zs n e => by rw [upd_ne (fun z => n (.inr z))]; exact e
          refine ⟨ys, h4, Nat.lt_of_lt_of_le (show ys.length < 1001 by omega) (by decide), ys ++ [y], same_put (s3.trans s4) hD, upd_same, ?_, by rw [List.length_append, List.length_singleton, hl]⟩
          rw [take_snoc ht]
          refine IsAxs.snoc ?_ (hys.go (Tups.trans (Same.tups s4) kp.tups) (fun a z => z) (fun a zs n e => fl a zs n (s4 _ _ e)))
          exact IsAx.go (S := fun E => H E ≠ none ∨ E = D) kp.tups (fun a z => z) fl (IsAx.go (Tups.refl H4) (fun a z => by
            rcases z with z | rfl
            · exact Same.ne s3 z
            · rw [h3]; exact fun z => nomatch z) (fun a zs _ e => e) hy)
        · rintro H3 ⟨ys, s3, h3, hys, hl⟩
          have e : l.take xs.length = l := by rw [hts.length, List.take_length]
          rw [e] at hys
          have := hys.go (S' := fun E => H E ≠ none) (Tups.refl H3) (fun a z => .inl z) (fun a zs _ e => e)
          exact k _ _ s3 (.lst (fun z => z hD) h3 this) (.lst h3 this.isa)
/-! ### the seals of a paper -/
abbrev sealsV (ts : List Th) : List V := ts.map fun t => V.int (sealOf t)
theorem seals_lc {p : Addr} {H : Hp} {xs : List V} {ts : List Th} {vs : List Nat} {σ : L2.St} {D i3 : Nat} {Q : Hp → Prop} (hp : H p = some (.lst xs)) (hx : IsTs H xs ts) (ok : ∀ t ∈ ts, Ok 3 t) (hl : ts.length < lim) (hD : H D = none)
    (hw : ∀ x : V, wipe ((wipe σ vs).set i3 (some x)) vs = wipe σ vs) (hi : ∀ x : V, ((wipe σ vs).set i3 (some x))[i3]? = some (some x))
    (q : ∀ H', Same H H' → H' D = some (.lst (sealsV ts)) → Q H') :
    ∃ W : Nat → Nat → Hp → Prop, (∃ m, W 0 m (upd H D (.lst []))) ∧ ∀ i m H1, W i m H1 →
      ((Itl K p).stop i H1 ∧ Q H1) ∨ ((Itl K p).go i H1 ∧ ∃ Nx : Hp → Prop, (∀ H', Nx H' → ∃ m', m' < m ∧ W (i + 1) m' H') ∧ ∀ x H', (Itl K p).yld i H1 x H' → gName i3 x (wipe σ vs) H' fun σ2 H2 => wipe σ2 vs = wipe σ vs ∧ tYes σ2 H2 fun b H3 =>
        if b = true then tF spSeal E0 (tCons (tVar i3) tNil) σ2 H3 fun y H4 => ∃ acc, H4 D = some (.lst acc) ∧ acc.length < sizeLine ∧ Nx (upd H4 D (.lst (acc ++ [y]))) else Nx H3) := by
  refine lc_list (xs := xs) (fun i H' => Same H H' ∧ H' D = some (.lst (sealsV (ts.take i)))) ?_ ?_ ?_ ?_
  · exact ⟨same_put (Same.refl H) hD, upd_same⟩
  · rintro i H3 hi ⟨s3, _⟩
    exact SqL.of (s3 _ _ hp)
  · rintro i x H3 hx1 ⟨s3, h3⟩
    obtain ⟨t, ht, hT⟩ := hx.get hx1
    have hi' : i < ts.length := (List.getElem?_eq_some_iff.mp ht).1
    refine ⟨hw x, _, hi x, x, t, rfl, hT.same s3, ok t (List.mem_of_getElem? ht), fun H4 s4 => ⟨_, s4 _ _ h3, ?_, same_put (s3.trans s4) hD, ?_⟩⟩
    · rw [List.length_map, List.length_take]
      exact lim_line (by omega)
    · rw [upd_same, take_snoc ht]
      unfold sealsV
      rw [List.map_append]; rfl
  · rintro H3 ⟨s3, h3⟩
    rw [hx.length, List.take_length] at h3
    exact q H3 s3 h3
theorem flat_seals : ∀ ts : List Th, (sealsV ts).all flatV = true
  | [] => rfl
  | t :: ts => by
    unfold sealsV
    rw [List.map_cons, List.all_cons]
    exact flat_seals ts
theorem not_in_seals {n : Int} : ∀ {ts : List Th}, (!inV (.int n) (sealsV ts)) = true → ∀ t ∈ ts, n ≠ sealOf t
  | [], _, t, h => by cases h
  | u :: ts, e, t, h => by
    unfold inV sealsV at e
    rw [List.map_cons, List.any_cons, Bool.not_or, Bool.and_eq_true] at e
    rcases List.mem_cons.mp h with rfl | h
    · intro z
      have := e.1
      rw [z] at this
      simp [eqV] at this
    · exact not_in_seals e.2 t h
/-! ### _law_others -/
def spOthers : Sp := fun vs H Q _ => ∃ p pp xs ts, vs = [.ref p, .ref pp] ∧ RowS H p ∧ pp ≠ p ∧ H pp = some (.lst xs) ∧ IsTs H xs ts ∧ (∀ t ∈ ts, Ok 3 t) ∧ ts.length < lim ∧
  ∀ H' q ys us, Tk p H H' → H q = none → H' q = some (.lst ys) → IsTs H' ys us → (∀ u ∈ us, Th2 u ∧ ∀ t ∈ ts, sealOf u ≠ sealOf t) → us.length ≤ 3 → Q (.ref q) H'
theorem fo__law_others (T : Tx K mg) : Fo P w K mg base CX0 8 (ad K "_law_others") spOthers := by
  have S : FnScope ["row", "paper", "numbers", "one", "more", "k", "new"] ["row", "paper"] (defScope (top 99)) := ⟨rfl, rfl, rfl, by decide +kernel, rfl, by decide +kernel, by decide +kernel⟩
  have F__law_take : Fo P w K mg base CX0 1 (ad K "_law_take") (spTake K) := fo__law_take T
  have F__law_some : Fo P w K mg base CX0 7 (ad K "_law_some") spSome := fo__law_some T
  have F_seal : Fo P w K mg base CX0 6 (ad K "seal") spSeal := fo_seal T
  refine T.d__law_others.ok S (fun _ _ _ _ _ _ us hl => match us, hl with | [_, _], _ => rfl) (fun vs H Q E h => by obtain ⟨p, pp, xs, ts, rfl, _⟩ := h; rfl) (fun cdv A outer s H vs Q E hr__law_some h => ?_)
  have hr__law_take := hr__law_some.mono (show 1 ≤ 7 by decide)
  have hr_seal := hr__law_some.mono (show 6 ≤ 7 by decide)
  refine ⟨_, PSs.nox ((pss_cons (ps_setLc (i := 2) (own := [("one", 3)]) (g := gName 3) (tt := tYes) (te := tF spSeal E0 (tCons (tVar 3) tNil)) rfl S.nd rfl rfl (sw_true rfl rfl rfl (by decide +kernel)) (pi_list (pv 1)) (blkOk_by (N := ["row", "paper", "numbers", "one", "more", "k", "new"]) (sc := defScope (top 99)) (by decide +kernel)) (fun _ _ _ _ _ => pg_name (i := 3) S.nd rfl (Or.inl rfl)) (fun _ _ _ _ _ => pts_nil) (fun _ _ _ _ _ => by exact (pe_fn F_seal hr_seal rfl T.b_seal.g pass0 (pa_cons (pv 3) pa_nil)))) (pss_cons (ps_set (i := 4) S.nd rfl (Or.inl rfl) (pe_lst pa_nil)) (pss_cons (ps_for PassesOwn.never rfl (pi_range1 rfl T.n_range (pa_cons (pe_fn F__law_take hr__law_take rfl T.b__law_take.g pass0 (pa_cons (pv 0) (pa_cons pe_int pa_nil))) pa_nil)) (pg_name (i := 5) S.nd rfl (Or.inl rfl)) (pss_cons (ps_set (i := 6) S.nd rfl (Or.inl rfl) (pe_fn F__law_some hr__law_some rfl T.b__law_some.g pass0 (pa_cons (pv 0) pa_nil))) (pss_one (ps_if (pt_cmpR op_notIn_seq (pe_fn F_seal hr_seal rfl T.b_seal.g pass0 (pa_cons (pv 6) pa_nil)) (pv 2) (by rfl)) (pss_one (ps_expr (pe_bm PySem.F.plainAttrs_list PySem.F.slot_list_append PySem.F.type_list_append mt_append (pv 4) (pa_cons (pv 6) pa_nil)))) pss_nil)))) (pss_one (ps_ret (pv 4))))))), ?_⟩
  obtain ⟨p, pp, xs, ts, rfl, hR, hne, hpp, hx, ok, hlim, k⟩ := h
  refine ⟨_, rfl, pp, rfl, ⟨_, SqL.of hpp⟩, fun D hD => ?_⟩
  refine seals_lc (i3 := 3) hpp hx ok hlim hD (fun x => rfl) (fun x => rfl) fun H1 s1 h1 => ?_
  have t1 : Tk p H H1 := Tk.new hR s1
  refine ⟨by show 0 ≤ sizeLine; decide, fun q hq => ?_⟩
  have hq0 : H q = none := s1.free hq
  have s2 := same_put (o := .lst []) (Same.refl H1) hq
  have t2 : Tk p H (upd H1 q (.lst [])) := t1.same s2
  have hDq : D ≠ q := fun z => by rw [z, hq] at h1; cases h1
  have hDp : D ≠ p := hR.ne hD
  have hqp : q ≠ p := hR.ne hq0
  refine ⟨_, rfl, p, 4, rfl, by decide, by decide, t2.rw_, fun H3 m t3 m0 m4 => ⟨m, rfl, by omega, by omega, ?_⟩⟩
  obtain ⟨m, rfl⟩ := Int.eq_ofNat_of_zero_le m0
  refine for_range (lo := 0) (n := ((m : Nat) : Int).toNat) (fun i σ H' => ∃ v3 v5 v6 ys us, σ = [some (.ref p), some (.ref pp), some (.ref D), v3, some (.ref q), v5, v6] ∧ Tk p H H' ∧ H' D = some (.lst (sealsV ts)) ∧ H' q = some (.lst ys) ∧ IsTs H' ys us ∧ (∀ u ∈ us, Th2 u ∧ ∀ t ∈ ts, sealOf u ≠ sealOf t) ∧ us.length ≤ i) ?_ ?_ ?_
  · exact ⟨_, _, _, [], [], rfl, t2.trans t3, t3.bt _ _ (s2 _ _ h1) hDp, t3.bt _ _ upd_same hqp, .nil, fun u hu => (by cases hu), Nat.le_refl _⟩
  · rintro i σ H4 hi ⟨v3, v5, v6, ys, us, rfl, t4, h4, hq4, hys, hus, hul⟩
    have hi : i < m := hi
    refine ⟨_, rfl, p, rfl, t4.rw_, fun H5 x t t5 hx okx => ?_⟩
    refine ⟨_, rfl, x, t, rfl, hx, okx.1.mono (by decide), fun H6 s6 => ⟨_, rfl, D, sealsV ts, rfl, .inl (SqL.of (s6 _ _ (t5.bt _ _ h4 hDp))), rfl, flat_seals ts, _, rfl, ite2 (fun c => ?_) (fun c => ?_)⟩⟩
    · have hq6 := s6 _ _ (t5.bt _ _ hq4 hqp)
      have kp : Keeps H6 (upd H6 q (.lst (ys ++ [x]))) := Keeps.list hq6
      refine ⟨_, rfl, .inl ⟨rfl, _, SqL.of hq6⟩, _, rfl, q, ys, x, rfl, rfl, hq6, ?_, ?_⟩
      · rw [hys.length]
        exact Nat.lt_of_lt_of_le (show us.length < 4 by omega) (by decide)
      · refine ⟨_, _, _, ys ++ [x], us ++ [t], rfl, (((t4.trans t5).same s6).up hq0 hqp (xs := ys)), by rw [upd_ne hDq]; exact s6 _ _ (t5.bt _ _ h4 hDp), upd_same, IsTs.snoc (((hys.ext (t5.tups t4.rw_)).same s6).ext kp.tups) ((hx.same s6).ext kp.tups), ?_, by rw [List.length_append, List.length_singleton]; omega⟩
        intro u hu
        rcases List.mem_append.mp hu with hu | hu
        · exact hus u hu
        · rw [List.mem_singleton.mp hu]
          exact ⟨okx, not_in_seals c⟩
    · exact ⟨_, _, _, ys, us, rfl, (t4.trans t5).same s6, s6 _ _ (t5.bt _ _ h4 hDp), s6 _ _ (t5.bt _ _ hq4 hqp), (hys.ext (t5.tups t4.rw_)).same s6, hus, by omega⟩
  · rintro σ H4 ⟨v3, v5, v6, ys, us, rfl, t4, h4, hq4, hys, hus, hul⟩
    have hul : us.length ≤ m := hul
    exact ⟨_, rfl, k _ q ys us t4 hq0 hq4 hys hus (by omega)⟩
end Wk
set_option Elab.async false
set_option linter.all false
set_option maxRecDepth 100000
set_option maxHeartbeats 4000000
/-! The law's helpers: paper_right, own. -/
namespace Wk
open PySem PySem.Spec PyProof.Rows L2 Pv Ph
variable {P : Program} {w : World} {K : PySem.W.Frag} {mg : Str → Option Value} {base : Heap}
/-- a keeper in the heap -/
structure KeepAt (K : PySem.W.Frag) (H : Hp) (kp kd : Addr) (k : Store) : Prop where
  ins : ∃ dx, H kp = some (.ins (ad K "Keeper") dx [("by_seal", .ref kd)])
  dict : DictS H kd k
  good : k.Good
theorem KeepAt.vault {H : Hp} {kp kd : Addr} {k : Store} (h : KeepAt K H kp kd k) : VaultAt K H (.ref kp) (.base k) [kd] := by
  obtain ⟨dx, e⟩ := h.ins
  exact .base (.inl rfl) e h.dict h.good
theorem KeepAt.ne {H : Hp} {kp kd : Addr} {k : Store} (h : KeepAt K H kp kd k) : kp ≠ kd := fun z => by
  obtain ⟨dx, e⟩ := h.ins
  obtain ⟨kvs, e2, _⟩ := h.dict
  rw [z, e2] at e
  cases e
theorem KeepAt.step {H H' : Hp} {kp kd : Addr} {k k' : Store} (h : KeepAt K H kp kd k) (st : Step [kd] H H') (V : VaultAt K H' (.ref kp) (.base k') [kd]) : KeepAt K H' kp kd k' := by
  obtain ⟨dx, e⟩ := h.ins
  have e' := st _ _ e (by rw [List.mem_singleton]; exact h.ne)
  cases V with
  | base hC ha hd hg => exact ⟨⟨dx, e'⟩, hd, hg⟩
theorem KeepAt.same {H H' : Hp} {kp kd : Addr} {k : Store} (h : KeepAt K H kp kd k) (s : Same H H') : KeepAt K H' kp kd k := by
  obtain ⟨dx, e⟩ := h.ins
  exact ⟨⟨dx, s _ _ e⟩, h.dict.keep (Keeps.of_same s), h.good⟩
theorem KeepAt.keep {H H' : Hp} {kp kd : Addr} {k : Store} (h : KeepAt K H kp kd k) (s : Keeps H H') : KeepAt K H' kp kd k := by
  obtain ⟨dx, e⟩ := h.ins
  exact ⟨⟨dx, s _ _ e fun z => z⟩, h.dict.keep s, h.good⟩
theorem KeepAt.tk {H H' : Hp} {kp kd p : Addr} {k : Store} (h : KeepAt K H kp kd k) (hR : RowS H p) (t : Tk p H H') : KeepAt K H' kp kd k := by
  obtain ⟨xs, hp⟩ := hR.isLst
  exact h.keep fun b o e n => t.bt b o e fun z => by
    rw [z, hp] at e
    cases e
    exact n True.intro
theorem KeepAt.dk {H : Hp} {kp kd : Addr} {k : Store} (h : KeepAt K H kp kd k) : ∀ d ∈ [kd], ∃ kvs, H d = some (.dK kvs) := fun d hd => by
  rw [List.mem_singleton.mp hd]
  obtain ⟨kvs, e, _⟩ := h.dict
  exact ⟨kvs, e⟩
theorem Does.thing {H : Hp} {kp kd : Addr} {k : Store} {n : Int} {t : Th} {Q : VK} {E : XK} (h : KeepAt K H kp kd k) (hk : k.length < lim) (e : Store.get k n = some t) (q : ∀ H' x, Step [kd] H H' → KeepAt K H' kp kd k → IsT H' x t → Q x H') : spThS K (.base k) [.ref kp, .int n] H Q E := by
  refine thS (s := .base k) h.vault (Same.insk (Same.refl H)) ⟨[kd], .base k, h.vault, ?_⟩
  rw [wq_thing_some (s' := .base k) (by show (match Store.get k n with | some t => some (t, VS.base k) | none => none) = _; rw [e])]
  exact ⟨hk, fun H' x st V r => q H' x st (h.step st V) r.1⟩
/-! ### _law_paper_right -/
def spPRight (K : PySem.W.Frag) : Sp := fun vs H Q _ => ∃ kp kd k pp xs ts, vs = [.ref kp, .ref pp] ∧ KeepAt K H kp kd k ∧ k.length < lim ∧ H pp = some (.lst xs) ∧ IsTs H xs ts ∧ (∀ t ∈ ts, Ok 3 t ∧ Store.get k (sealOf t) = some t) ∧ (ts.map sealOf).Pairwise (· < ·) ∧ ts.length < lim ∧
  ∀ H', Step [kd] H H' → KeepAt K H' kp kd k → Q (.bl true) H'
theorem fo__law_paper_right (T : Tx K mg) : Fo P w K mg base (L2.CX P w) 7 (ad K "_law_paper_right") (spPRight K) := by
  have S : FnScope ["keeper", "paper", "numbers", "one", "k"] ["keeper", "paper"] (defScope (top 98)) := ⟨rfl, rfl, rfl, by decide +kernel, rfl, by decide +kernel, by decide +kernel⟩
  have F_seal : Fo P w K mg base CX0 6 (ad K "seal") spSeal := fo_seal T
  refine T.d__law_paper_right.ok S (fun _ _ _ _ _ _ us hl => match us, hl with | [_, _], _ => rfl) (fun vs H Q E h => by obtain ⟨kp, kd, k, pp, xs, ts, rfl, _⟩ := h; rfl) (fun cdv A outer s H vs Q E hr_seal h => ?_)
  have hr2 := hr_seal.mono (show 2 ≤ 6 by decide)
  have hu6 := hr_seal.units
  refine ⟨_, (pss_cons (ps_if (pt_not (pt_val (pe_callB call_isi (by rfl) T.n_isinstance (by decide +kernel) (pa_cons (pv 1) (pa_cons (pe_bltn (v := V.ty "list") (u := Value.type "list") rfl T.n_list (by decide +kernel) rfl) pa_nil))))) (pss_one (ps_ret pe_bl)) pss_nil) (pss_cons (ps_setLc (i := 2) (own := [("one", 3)]) (g := gName 3) (tt := tYes) (te := tF spSeal E0 (tCons (tVar 3) tNil)) rfl S.nd rfl rfl (sw_true rfl rfl rfl (by decide +kernel)) (pi_list (pv 1)) (blkOk_by (N := ["keeper", "paper", "numbers", "one", "k"]) (sc := defScope (top 98)) (by decide +kernel)) (fun _ _ _ _ _ => pg_name (i := 3) S.nd rfl (Or.inl rfl)) (fun _ _ _ _ _ => pts_nil) (fun _ _ _ _ _ => by exact (pe_fn F_seal hr_seal rfl T.b_seal.g pass0 (pa_cons (pv 3) pa_nil)))) (pss_cons (ps_for ownX rfl (pi_range1 rfl T.n_range (pa_cons (pe_callB call_len_seq (by rfl) T.n_len PySem.boot_len (pa_cons (pv 1) pa_nil)) pa_nil)) (pg_name (i := 4) S.nd rfl (Or.inl rfl)) (pss_one (ps_if (PW.pt (pw_or (PW.pt (pw_and (pt_cmpR op_gt (pv 4) pe_int (nomark _)) (pw_and1 (pt_cmpR op_ge (pe_ix ix_list (pv 2) (pe_op op_sub (pv 4) pe_int) (fun _ _ => rfl)) (pe_ix ix_list (pv 2) (pv 4) (fun _ _ => rfl)) (nomark _))))) (pw_or1 (pt_cmpR (op_neT hu6) (pe_vthing T hr2 passX (pv 0) (pa_cons (pe_ix ix_list (pv 2) (pv 4) (fun _ _ => rfl)) pa_nil)) (pe_ix ix_list (pv 1) (pv 4) (fun _ _ => rfl)) (nomark _))))) (pss_one (ps_ret pe_bl)) pss_nil))) (pss_one (ps_ret pe_bl))))), ?_⟩
  obtain ⟨kp, kd, k, pp, xs, ts, rfl, hK, hk, hpp, hx, ok, hpw, hlim, q⟩ := h
  refine ⟨_, rfl, _, _, _, _, _, rfl, .ty _, .base (.lst hpp), kit_ty (show kitB "list" "list" = some true by decide +kernel), _, rfl, iteF ⟨_, rfl, pp, rfl, ⟨_, SqL.of hpp⟩, fun D hD => ?_⟩⟩
  refine seals_lc (i3 := 3) hpp hx (fun t ht => (ok t ht).1) hlim hD (fun x => rfl) (fun x => rfl) fun H1 s1 h1 => ?_
  refine ⟨_, rfl, pp, xs, rfl, .inl (SqL.of (s1 _ _ hpp)), (xs.length : Int), rfl, by omega, ?_, ?_⟩
  · rw [hx.length]
    have : lim < 2 ^ 62 := by decide
    omega
  have hxl := hx.length
  have K1 := hK.same s1
  refine for_range (lo := 0) (n := ((xs.length : Nat) : Int).toNat) (fun i σ H' => ∃ v3 v4, σ = [some (.ref kp), some (.ref pp), some (.ref D), v3, v4] ∧ Step [kd] H1 H' ∧ KeepAt K H' kp kd k) ?_ ?_ ?_
  · exact ⟨_, _, rfl, Step.refl _ _, K1⟩
  · rintro i σ H2 hi ⟨v3, v4, rfl, st2, K2⟩
    have hi : i < xs.length := hi
    have hit : i < ts.length := by omega
    have hD2 : H2 D = some (.lst (sealsV ts)) := st2.keep K1.dk h1 (fun _ z => nomatch z)
    have hp2 : H2 pp = some (.lst xs) := st2.keep K1.dk (s1 _ _ hpp) (fun _ z => nomatch z)
    have ei : (0 : Int) + (i : Nat) = ((i : Nat) : Int) := by omega
    rw [ei]
    have at1 : ∀ j (hj : j < ts.length), (sealsV ts)[j]? = some (.int (sealOf ts[j])) := fun j hj => by
      unfold sealsV
      rw [List.getElem?_map, List.getElem?_eq_getElem hj]
      rfl
    refine (fun (rest : _) => ⟨_, rfl, _, _, rfl, rfl, _, rfl, ite2 (fun c => ?main) (fun c => iteF rest)⟩) ?rest
    case main =>
      have c' : (0 : Int) < i := of_decide_eq_true c
      obtain ⟨j, rfl⟩ := Nat.exists_eq_succ_of_ne_zero (show i ≠ 0 by omega)
      have hj : j < ts.length := by omega
      have e0 : atI (sealsV ts) (((j.succ : Nat) : Int) - 1) = some (.int (sealOf ts[j])) := by
        rw [show (((j.succ : Nat)) : Int) - 1 = ((j : Nat) : Int) by omega]
        exact atI_nat (at1 j hj)
      refine ⟨_, rfl, _, rfl, _, _, rfl, rfl, D, _, _, _, rfl, rfl, SqL.of hD2, e0, _, rfl, _, rfl, D, _, _, _, rfl, rfl, SqL.of hD2, atI_nat (at1 _ hit), _, _, rfl, rfl, _, rfl, ite2 (fun c2 => ?_) (fun c2 => rest)⟩
      · exfalso
        have := of_decide_eq_true c2
        have l := List.pairwise_iff_getElem.mp hpw j j.succ (by rw [List.length_map]; exact hj) (by rw [List.length_map]; exact hit) (Nat.lt_succ_self j)
        rw [List.getElem_map, List.getElem_map] at l
        omega
    case rest =>
      obtain ⟨x, hx1, hT⟩ := hx.get' (List.getElem?_eq_getElem hit)
      have okt := ok _ (List.getElem_mem hit)
      refine ⟨_, _, _, fun Q' q => ⟨_, rfl, q⟩, K2.vault, _, rfl, _, rfl, D, _, _, _, rfl, rfl, SqL.of hD2, atI_nat (at1 _ hit), Does.thing K2 hk okt.2 fun H3 y st3 K3 hy => ?_⟩
      have st13 := st2.trans st3
      refine ⟨_, rfl, _, rfl, pp, xs, _, _, rfl, rfl, SqL.of (st3.keep K2.dk hp2 (fun _ z => nomatch z)), atI_nat hx1, ts[i], ts[i], hy, (hT.same s1).ext (st13.tups K1.dk), Nat.le_trans okt.1.depth (by decide), _, rfl, ite2 (fun c => ?_) (fun c => ⟨_, _, rfl, st13, K3⟩)⟩
      exfalso
      simp at c
  · rintro σ H2 ⟨v3, v4, rfl, st2, K2⟩
    exact q _ (Step.trans (Step.of_same s1) st2) K2
/-! ### _law_own -/
def spOwn (K : PySem.W.Frag) : Sp := fun vs H Q E => ∃ tp root x xs ts q, vs = [.ref tp, .int root, x] ∧ H tp = some (.lst xs) ∧ IsTs H xs ts ∧ QsV K H x q ∧ q.Ok ∧ q.len ≤ 100 ∧
  wq (layAll ts) (.base []) (fun _ s' => wq (q.run root) s' (fun an _ => ∀ H' y, Same H H' → AnsB H H' y an → Q y H') (fun e => ∀ H' cls d, Same H H' → ExR K H' e cls d → E cls d H')) (fun e => ∀ H' cls d, Same H H' → ExR K H' e cls d → E cls d H')
theorem fo__law_own (T : Tx K mg) : Fo P w K mg base (L2.CX P w) 15 (ad K "_law_own") (spOwn K) := by
  have S : FnScope ["things", "root", "ask", "twin", "thing"] ["things", "root", "ask"] (defScope (top 100)) := ⟨rfl, rfl, rfl, by decide +kernel, rfl, by decide +kernel, by decide +kernel⟩
  have F_Keeper : Fo P w K mg base CX0 1 (am K "Vault" "__init__") (spVinit K) := fo_Vinit T
  refine T.d__law_own.ok S (fun _ _ _ _ _ _ us hl => match us, hl with | [_, _, _], _ => rfl) (fun vs H Q E h => by obtain ⟨tp, root, x, xs, ts, q, rfl, _⟩ := h; rfl) (fun cdv A outer s H vs Q E hr14 h => ?_)
  have hr8 := hr14.mono (show 8 ≤ 14 by decide)
  have hr_Keeper := hr14.mono (show 2 ≤ 14 by decide)
  refine ⟨_, (pss_cons (ps_set (i := 3) S.nd rfl (Or.inl rfl) (pe_mk0 T.k_Keeper.mk_ F_Keeper hr_Keeper rfl T.b_Keeper.g pass0)) (pss_cons (ps_for ownX rfl (pi_list (pv 0)) (pg_name (i := 4) S.nd rfl (Or.inl rfl)) (pss_one (ps_expr (pe_vlay T hr8 passX (pv 3) (pa_cons (pv 4) pa_nil))))) (pss_one (ps_ret (pe_qs T hr14 passX (pv 2) (pa_cons (pv 3) (pa_cons (pv 1) pa_nil))))))), ?_⟩
  obtain ⟨tp, root, x, xs, ts, q, rfl, htp, hts, hQ, ok, hlen, w0⟩ := h
  refine fun a dx ha hdx ne => ⟨a, _, dx, rfl, .inl rfl, upd_same, fun d hd => ⟨rfl, ?_⟩⟩
  have had : a ≠ d := fun z => by rw [← z, upd_same] at hd; cases hd
  have hd1 : (upd H dx (.own a)) d = none := by rw [upd_ne (Ne.symm had)] at hd; exact hd
  have hdd : d ≠ dx := fun z => by rw [z, upd_same] at hd1; cases hd1
  have hd0 : H d = none := by rw [upd_ne hdd] at hd1; exact hd1
  have s1 : Same H (upd (upd (upd (upd H dx (.own a)) a (.ins (ad K "Keeper") dx [])) d (.dK [])) a (.ins (ad K "Keeper") dx [("by_seal", .ref d)])) := fun b o e => by
    rw [upd_ne (ne_of_none e ha), upd_ne (ne_of_none e hd0), upd_ne (ne_of_none e ha), upd_ne (ne_of_none e hdx)]
    exact e
  have V1 : VaultAt K (upd (upd (upd (upd H dx (.own a)) a (.ins (ad K "Keeper") dx [])) d (.dK [])) a (.ins (ad K "Keeper") dx [("by_seal", .ref d)])) (.ref a) (.base []) [d] := by
    refine .base (.inl rfl) upd_same ⟨[], ?_, .nil⟩ .nil
    rw [upd_ne (Ne.symm had)]
    exact upd_same
  generalize upd (upd (upd (upd H dx (.own a)) a (.ins (ad K "Keeper") dx [])) d (.dK [])) a (.ins (ad K "Keeper") dx [("by_seal", .ref d)]) = H1 at s1 V1 ⊢
  have tu : ∀ {H'}, Step [d] H1 H' → Same H H' := fun st b o e => st b o (s1 b o e) (by
    rw [List.mem_singleton]
    exact ne_of_none e hd0)
  have r0 : Run K H1 [d] E (.ref a) ((layAll ts).bind fun _ => q.run root) (fun an _ => ∀ H' y, Same H H' → AnsB H H' y an → Q y H') H1 :=
    ⟨.base [], Step.refl _ _, V1, (wq_bind_iff _ _ _).mpr (wq_mono _ _ (fun _ s' z => wq_mono _ _ (fun _ _ z => z) (fun e z H' cls dd st ex => z H' cls dd (tu st) ex) z) (fun e z H' cls dd st ex => z H' cls dd (tu st) ex) w0)⟩
  refine ⟨_, rfl, tp, rfl, ⟨xs, SqL.of (s1 _ _ htp)⟩, for_list (xs := xs) (fun i σ H' => ∃ v4, σ = [some (.ref tp), some (.int root), some x, some (.ref a), v4] ∧ Run K H1 [d] E (.ref a) ((layAll (ts.drop i)).bind fun _ => q.run root) (fun an _ => ∀ H' y, Same H H' → AnsB H H' y an → Q y H') H') ?_ ?_ ?_ ?_⟩
  · exact ⟨_, rfl, by rw [List.drop_zero]; exact r0⟩
  · rintro i σ H2 hi ⟨v4, rfl, r⟩
    exact SqL.of (tu r.step _ _ htp)
  · rintro i y σ H2 hy ⟨v4, rfl, r⟩
    obtain ⟨t, ht, hT⟩ := hts.get hy
    rw [drop_at ht] at r
    have r : Run K H1 [d] E (.ref a) (.lay t fun _ => (layAll (ts.drop (i + 1))).bind fun _ => q.run root) _ H2 := r
    have hT2 := hT.ext (Same.tups (tu r.step))
    obtain ⟨s, V2⟩ := r.vault
    exact ⟨_, _, s, fun Q' q => ⟨_, rfl, q⟩, V2, _, rfl, r.lay V2 (Same.insk (Same.refl H2)) hT2 fun n H3 st r3 => ⟨_, rfl, r3⟩⟩
  · rintro σ H2 ⟨v4, rfl, r⟩
    rw [hts.length, List.drop_length] at r
    have r : Run K H1 [d] E (.ref a) (q.run root) _ H2 := r
    have s2 := tu r.step
    have hQ2 := hQ.ext (Same.insk s2) (Same.tups s2) (Same.lsts s2)
    refine ⟨x, q, fun Q' q => ⟨_, rfl, q⟩, hQ2, _, rfl, _, rfl, _, root, rfl, hQ2, ok, hlen, r.tail fun an H3 y st r3 e => ?_⟩
    obtain ⟨s, st3, _, z⟩ := r3
    exact z _ _ (tu st3) (AnsB.back s2 e)
end Wk
set_option Elab.async false
set_option linter.all false
set_option maxRecDepth 100000
set_option maxHeartbeats 4000000
/-! The law's helpers: lacks. -/
namespace Wk
open PySem PySem.Spec PyProof.Rows L2 Pv Ph
def tGd (p : Prop) (t : TS) : TS := fun D σ H => p ∧ t D σ H
theorem gd_pss {X : Cx} {b : List Stmt} {p : Prop} {t : TS} (h : p → PSs X b t) : PSs X b (tGd p t) := ⟨fun pins s σ H D I q => (h q.1).run pins s σ H D I q.2⟩
theorem pe_fnS {X : Cx} {CX : CXT} {k : Nat} {f : Addr} {sp : Sp} {E : L2.St → XK} {x : Str} {p pos : Pos} {e : Expr} {es : List Expr} {t : TA} (F : Fo X.prog X.w X.K X.mg X.base CX k f sp) (hr : Room k X.A) (hg : Gl X x) (hm : X.mg x = some (.ref f)) (hx : ∀ σ, PassesAt CX X σ (E σ))
    (ha : PA X (e :: es) t) (hdb : (x == ("__debug__" : Str)) = false := by decide) (he : starEach (e :: es) X.env = (false, eval e X.env) :: starEach es X.env := by rfl) (hpl : (backTo pos (starEach es X.env)).any (·.1) = false := by rfl) :
    PE X (.Call (.Name x p) (e :: es) [] pos) (tCallS sp E t) := by
  obtain ⟨⟨fd, ps, F1, b⟩, kp⟩ := F
  exact pe_callS F1 hr hg hm kp b hx ha hdb he hpl
variable {P : Program} {w : World} {K : PySem.W.Frag} {mg : Str → Option Value} {base : Heap}
def spLacks (K : PySem.W.Frag) : Sp := fun vs H Q _ => ∃ root x p xs ts q, vs = [.int root, x, .ref p] ∧ H p = some (.lst xs) ∧ IsTs H xs ts ∧ QsV K H x q ∧ q.Ok ∧ q.len ≤ 100 ∧
  wq (layAll ts) (.base []) (fun _ s' => wq (q.run root) s' (fun _ _ => False) (fun e => e = .noPaper)) (fun _ => False) ∧ ∀ H', Same H H' → Q (.bl true) H'
theorem fo__law_lacks (T : Tx K mg) : Fo P w K mg base CX0 16 (ad K "_law_lacks") (spLacks K) := by
  have S : FnScope ["root", "ask", "paper", "lacks", "other", "e"] ["root", "ask", "paper"] (defScope (top 96)) := ⟨rfl, rfl, rfl, by decide +kernel, rfl, by decide +kernel, by decide +kernel⟩
  have F_checked : Fo P w K mg base (L2.CX P w) 15 (ad K "checked") (spChecked K) := fo_checked T
  have X_ : ExcC K (ad K "NoPaper") := ⟨T.p_g, T.p_k, T.e_NoPaper, T.p_d, T.p_a, T.p_n, T.p_t, T.p_m⟩
  refine T.d__law_lacks.ok S (fun _ _ _ _ _ _ us hl => match us, hl with | [_, _, _], _ => rfl) (fun vs H Q E h => by obtain ⟨root, x, p, xs, ts, q, rfl, _⟩ := h; rfl) (fun cdv A outer s H vs Q E hr_checked h => ?_)
  refine ⟨_, PSs.nox ((pss_cons (ps_set (i := 3) S.nd rfl (Or.inl rfl) pe_bl) (pss_cons (ps_set (i := 4) S.nd rfl (Or.inl rfl) pe_bl) (pss_cons (ps_try_as (i := 5) (ts := fun a cls d => tGd (cls = .ref (ad K "NoPaper") ∧ d = none) _) (Wout := fun _ _ _ _ => False) rfl rfl S.nd rfl rfl ⟨rfl, by decide, Or.inl T.b_VaultError.g⟩ takes0 (fun W pn xe tk _ => pss_one (ps_expr (by exact (pe_fnS F_checked hr_checked rfl T.b_checked.g (fun σ => passAt tk σ) (by exact (pa_cons (pv 0) (pa_cons (pv 1) (pa_cons (pv 2) pa_nil)))))))) (fun a oe cls d pn hz hf => gd_pss fun hc => by obtain ⟨rfl, rfl⟩ := hc; exact (pss_cons (ps_set (i := 3) S.nd rfl (Or.inl rfl) (pe_and (pe_callB (Rl.call_isEC X_ hz hf) (by rfl) T.n_isinstance (by decide +kernel) (pa_cons (pv 5) (pa_cons (pe_glob (v := V.ref (ad K "NoPaper")) rfl T.b_NoPaper.g rfl) pa_nil))) (pe_one (pe_callB (Rl.call_isEC X_ hz hf) (by rfl) T.n_isinstance (by decide +kernel) (pa_cons (pv 5) (pa_cons (pe_bltn (v := V.ty "ValueError") (u := Value.type "ValueError") rfl T.n_ValueError (by decide +kernel) rfl) pa_nil)))))) (pss_cons (ps_set (i := 4) S.nd rfl (Or.inl rfl) (pe_callB (Rl.call_isET X_ hz hf) (by rfl) T.n_isinstance (by decide +kernel) (pa_cons (pv 5) (pa_cons (pe_tup (pa_cons (pe_glob (v := V.ref (ad K "BadThing")) rfl T.b_BadThing.g rfl) (pa_cons (pe_glob (v := V.ref (ad K "Clash")) rfl T.b_Clash.g rfl) (pa_cons (pe_glob (v := V.ref (ad K "NoColumn")) rfl T.b_NoColumn.g rfl) (pa_cons (pe_glob (v := V.ref (ad K "NoCommand")) rfl T.b_NoCommand.g rfl) (pa_cons (pe_glob (v := V.ref (ad K "NoName")) rfl T.b_NoName.g rfl) (pa_cons (pe_glob (v := V.ref (ad K "NoPlan")) rfl T.b_NoPlan.g rfl) (pa_cons (pe_glob (v := V.ref (ad K "NoQuestion")) rfl T.b_NoQuestion.g rfl) (pa_cons (pe_glob (v := V.ref (ad K "NoRow")) rfl T.b_NoRow.g rfl) (pa_cons (pe_glob (v := V.ref (ad K "NoState")) rfl T.b_NoState.g rfl) pa_nil)))))))))) pa_nil)))) (pss_one (ps_set (i := 4) S.nd rfl (Or.inl rfl) (pe_or (pv 4) (pe_one (pe_callB (Rl.call_isET X_ hz hf) (by rfl) T.n_isinstance (by decide +kernel) (pa_cons (pv 5) (pa_cons (pe_tup (pa_cons (pe_glob (v := V.ref (ad K "NoStep")) rfl T.b_NoStep.g rfl) (pa_cons (pe_glob (v := V.ref (ad K "NoTable")) rfl T.b_NoTable.g rfl) (pa_cons (pe_glob (v := V.ref (ad K "NoThing")) rfl T.b_NoThing.g rfl) (pa_cons (pe_glob (v := V.ref (ad K "NotOn")) rfl T.b_NotOn.g rfl) (pa_cons (pe_glob (v := V.ref (ad K "NotSo")) rfl T.b_NotSo.g rfl) pa_nil)))))) pa_nil))))))))))) (pss_one (ps_ret (pe_and (pv 3) (pe_one (pe_not (pv 4)))))))))), ?_⟩
  obtain ⟨root, x, p, xs, ts, q, rfl, hp, hts, hQ, ok, hl, w0, k⟩ := h
  refine ⟨_, rfl, _, rfl, _, rfl, root, x, p, xs, ts, q, rfl, hp, hts, hQ, ok, hl, ?_⟩
  refine wq_mono _ _ (fun _ s' z => wq_mono _ _ (fun _ _ z => z.elim) (fun e he => ?_) z) (fun _ z => z.elim) w0
  subst he
  intro H1 cls d s1 ex
  obtain ⟨rfl, rfl⟩ := ex
  refine ⟨true, T.y_nv, fun _ a ha => ⟨⟨rfl, rfl⟩, ?_⟩, fun z => nomatch z⟩
  refine ⟨_, rfl, _, _, _, rfl, .own _, T.q_n, _, rfl, iteT ⟨_, rfl, _, _, _, rfl, .ty _, T.q_v, ?_⟩⟩
  refine ⟨_, rfl, by show 9 ≤ sizeLine; decide, fun tp htp => ⟨tp, _, _, _, rfl, upd_same, .cons (.own _) (.cons (.own _) (.cons (.own _) (.cons (.own _) (.cons (.own _) (.cons (.own _) (.cons (.own _) (.cons (.own _) (.cons (.own _) (.nil))))))))), T.q_9, ?_⟩⟩
  refine ⟨_, rfl, _, rfl, iteF ⟨_, rfl, by show 5 ≤ sizeLine; decide, fun tp2 htp2 => ⟨tp2, _, _, _, rfl, upd_same, .cons (.own _) (.cons (.own _) (.cons (.own _) (.cons (.own _) (.cons (.own _) (.nil))))), T.q_5, ?_⟩⟩⟩
  exact ⟨_, rfl, _, rfl, iteT ⟨_, rfl, _, rfl, k _ (same_new (same_new s1 htp) htp2)⟩⟩
end Wk
set_option Elab.async false
set_option linter.all false
set_option maxRecDepth 100000
set_option maxHeartbeats 4000000
/-! The law's helpers: grown. -/
namespace Wk
open PySem PySem.Spec PyProof.Rows L2 Pv Ph
theorem kp_wq {α : Type} {p : Pg α} {k : Store} {b : Nat} {Qv : α → Vw → Prop} (gk : k.Good) (h : wv p (VS.view (.base k)) Qv) (o : Ops p b Tr) (hl : k.length + b ≤ lim) :
    wq p (.base k) (fun a s' => ∃ k', s' = .base k' ∧ k'.Good ∧ k'.length ≤ k.length + b ∧ Qv a (VS.view (.base k'))) SClash := by
  refine wq_mono _ _ (fun a s' z => ?_) (fun e z => z) (wq_of p (.base k) (wp_of_wv p (.base k) gk h) o hl)
  obtain ⟨⟨g, kn, q⟩, sz⟩ := z
  cases s' with
  | base k' => exact ⟨k', rfl, g, sz, q⟩
  | reader _ _ _ => exact kn.elim
theorem Room.u9 {k : Nat} {A : Around} (h : Room k A) : A.units + 1 + 8 < cLine := by
  have := h.units
  omega
open Dk (atE_mem)
def EC (K : PySem.W.Frag) (E : XK) : Prop := ∀ e, SClash e → ∀ H' cls d, ExR K H' e cls d → E cls d H'
variable {P : Program} {w : World} {K : PySem.W.Frag} {mg : Str → Option Value} {base : Heap}
theorem KeepAt.run {α : Type} {p : Pg α} {H : Hp} {kp kd : Addr} {k : Store} {R : Hp → V → α → Prop} {Q : VK} {E : XK} {Z : α → Store → Prop} (hK : KeepAt K H kp kd k) (w : wq p (.base k) (fun a s' => ∃ k', s' = .base k' ∧ Z a k') SClash) (ec : EC K E)
    (q : ∀ a k' H' x, Z a k' → Step [kd] H H' → KeepAt K H' kp kd k' → R H' x a → Q x H') : Does K H (.ref kp) p R Q E := by
  refine ⟨[kd], .base k, hK.vault, wq_mono _ _ (fun a s' z H' x st V r => ?_) (fun e z H' cls d st ex => ec e z H' cls d ex) w⟩
  obtain ⟨k', rfl, z⟩ := z
  exact q a k' H' x z st (hK.step st V) r
theorem Step.but {M : List Addr} {H H1 H2 : Hp} {p : Addr} (s : Step M H H1) (h : H p = none) (b : But p H1 H2) : Step M H H2 := fun c o e n => b c o (s c o e n) (ne_of_none e h)
theorem Step.put {M : List Addr} {H H1 : Hp} {p : Addr} {o : HO} (s : Step M H H1) (h : p ∈ M) : Step M H (upd H1 p o) := s.up (.inr h)
/-- the tree of a keeper -/
structure TreeAt (k : Store) (root : Int) (n : Nat) : Prop where
  wf : ∃ z, WF (VS.view (.base k)) root z ∧ z ≤ n
  len : k.length ≤ 5000 * n
theorem not_dk {w : World} {d : Addr} {l : Dk.En Value} : ∀ kvs, Dk.plainO w d l ≠ .dK kvs := fun kvs z => by
  cases (show HO.ext _ = HO.dK kvs from z)
theorem not_lst {w : World} {d : Addr} {l : Dk.En Value} : ∀ xs, Dk.plainO w d l ≠ .lst xs := fun xs z => by
  cases (show HO.ext _ = HO.lst xs from z)
/-- the state of _law_grown -/
structure Gs (K : PySem.W.Frag) (w : World) (H0 H : Hp) (kp kd pl dp : Addr) (k : Store) (ps : List Th) (l : Dk.En Value) (root : Int) (n : Nat) : Prop where
  st : Step [kd, pl, dp] H0 H
  kk : KeepAt K H kp kd k
  po : PoolV H pl ps
  pd : Dk.PlainAt w H dp l
  tr : TreeAt k root n
  ln : l.length ≤ n
section
variable {H0 H H1 : Hp} {kp kd pl dp rp : Addr} {k k' : Store} {ps : List Th} {l l' : Dk.En Value} {root root' : Int} {n m : Nat}
theorem Gs.same (g : Gs K w H0 H kp kd pl dp k ps l root n) (s : Same H H1) : Gs K w H0 H1 kp kd pl dp k ps l root n := ⟨g.st.trans (Step.of_same s), g.kk.same s, g.po.ext (Same.tups s) (Same.lsts s), g.pd.up (Same.tups s) (s _ _ g.pd.at_), g.tr, g.ln⟩
theorem Gs.tk (g : Gs K w H0 H kp kd pl dp k ps l root n) (hR : RowS H rp) (t : Tk rp H H1) (h0 : H0 rp = none) (n1 : pl ≠ rp) (n2 : dp ≠ rp) : Gs K w H0 H1 kp kd pl dp k ps l root n :=
  ⟨g.st.but h0 t.bt, g.kk.tk hR t, g.po.tk hR n1 t, g.pd.up (t.tups hR) (t.bt _ _ g.pd.at_ n2), g.tr, g.ln⟩
theorem Gs.step (g : Gs K w H0 H kp kd pl dp k ps l root n) (st : Step [kd] H H1) (kk : KeepAt K H1 kp kd k') (tr : TreeAt k' root' m) (hm : n ≤ m) : Gs K w H0 H1 kp kd pl dp k' ps l root' m :=
  ⟨g.st.trans (st.mono fun b hb => by rw [List.mem_singleton.mp hb]; exact List.mem_cons_self), kk, g.po.ext (st.tups g.kk.dk) (st.lsts g.kk.dk), g.pd.up (st.tups g.kk.dk) (st.keep g.kk.dk g.pd.at_ not_dk), tr, Nat.le_trans g.ln hm⟩
theorem Gs.ne1 (g : Gs K w H0 H kp kd pl dp k ps l root n) : dp ≠ pl := fun z => by
  obtain ⟨xs, e, _⟩ := g.po.at_
  have := g.pd.at_
  rw [z, e] at this
  exact not_lst xs (Option.some.inj this).symm
theorem Gs.plain (g : Gs K w H0 H kp kd pl dp k ps l root n) {o : HO} (ho : ∃ l', o = Dk.plainO w dp l') (pd : Dk.PlainAt w (upd H dp o) dp l') (hl : l'.length ≤ m) (hm : n ≤ m) : Gs K w H0 (upd H dp o) kp kd pl dp k ps l' root m := by
  obtain ⟨dx, e⟩ := g.kk.ins
  have n1 : kp ≠ dp := fun z => by
    have := g.pd.at_
    rw [← z, e] at this
    cases (show HO.ins _ _ _ = HO.ext _ from Option.some.inj this)
  obtain ⟨kvs, e2, r⟩ := g.kk.dict
  have n2 : kd ≠ dp := fun z => by
    have := g.pd.at_
    rw [← z, e2] at this
    cases (show HO.dK _ = HO.ext _ from Option.some.inj this)
  have tu : Tups H (upd H dp o) := fun a xs q => by
    rw [upd_ne (fun z => by
      have := g.pd.at_
      rw [← z, q] at this
      cases (show HO.tup _ = HO.ext _ from Option.some.inj this))]
    exact q
  obtain ⟨xs, e3, hx⟩ := g.po.at_
  refine ⟨g.st.put (by simp), ⟨⟨dx, by rw [upd_ne n1]; exact e⟩, ⟨kvs, by rw [upd_ne n2]; exact e2, r.ext tu⟩, g.kk.good⟩, ⟨⟨xs, by rw [upd_ne (Ne.symm g.ne1)]; exact e3, hx.ext tu⟩, g.po.ok, g.po.len⟩, pd, ⟨?_, ?_⟩, hl⟩
  · obtain ⟨z, a, b⟩ := g.tr.wf
    exact ⟨z, a, Nat.le_trans b hm⟩
  · exact Nat.le_trans g.tr.len (Nat.mul_le_mul_left _ hm)
theorem Gs.push (g : Gs K w H0 H kp kd pl dp k ps l root n) {xs : List V} {x : V} {t : Th} (e : H pl = some (.lst xs)) (hx : IsT H x t) (ht : Th2 t) (hl : ps.length < 1000) : Gs K w H0 (upd H pl (.lst (xs ++ [x]))) kp kd pl dp k (ps ++ [t]) l root n := by
  have kp' : Keeps H (upd H pl (.lst (xs ++ [x]))) := Keeps.list e
  obtain ⟨ys, e2, hy⟩ := g.po.at_
  rw [e] at e2
  cases e2
  refine ⟨g.st.put (by simp), g.kk.keep kp', ⟨⟨_, upd_same, IsTs.snoc (hy.ext kp'.tups) (hx.ext kp'.tups)⟩, ?_, by rw [List.length_append, List.length_singleton]; omega⟩, g.pd.up kp'.tups (by rw [upd_ne g.ne1]; exact g.pd.at_), g.tr, g.ln⟩
  intro u hu
  rcases List.mem_append.mp hu with hu | hu
  · exact g.po.ok u hu
  · rw [List.mem_singleton.mp hu]; exact ht
theorem Gs.nn (g : Gs K w H0 H kp kd pl dp k ps l root n) : ∀ d ∈ [kd, pl, dp], H d ≠ none := by
  intro d hd
  simp only [List.mem_cons, List.not_mem_nil, or_false] at hd
  rcases hd with rfl | rfl | rfl
  · obtain ⟨kvs, e, _⟩ := g.kk.dict
    rw [e]; exact fun z => nomatch z
  · obtain ⟨xs, e, _⟩ := g.po.at_
    rw [e]; exact fun z => nomatch z
  · rw [g.pd.at_]; exact fun z => nomatch z
end
def spGrown (K : PySem.W.Frag) (w : World) : Sp := fun vs H Q E => ∃ (kp kd cl : Addr) (cs : List Int) (pl dp : Addr), vs = [.ref kp, .ref cl, .ref pl, .ref dp] ∧ KeepAt K H kp kd [] ∧ H cl = some (.lst (cs.map V.int)) ∧ cs.length ≤ 21 ∧ H pl = some (.lst []) ∧ Dk.PlainAt w H dp [] ∧ cl ≠ pl ∧ EC K E ∧
  ∀ H' root k ps, Step [kd, pl, dp] H H' → KeepAt K H' kp kd k → TreeAt k root 21 → PoolV H' pl ps → ps.length ≤ 21 → Q (.int root) H'
theorem fo__law_grown (T : Tx K mg) : Fo P w K mg base (L2.CX P w) 13 (ad K "_law_grown") (spGrown K w) := by
  have S : FnScope ["keeper", "cells", "pool", "plain", "root", "cell", "row", "key"] ["keeper", "cells", "pool", "plain"] (defScope (top 92)) := ⟨rfl, rfl, rfl, by decide +kernel, rfl, by decide +kernel, by decide +kernel⟩
  have F__law_row : Fo P w K mg base CX0 1 (ad K "_law_row") spRow := fo__law_row T
  have F__law_take : Fo P w K mg base CX0 1 (ad K "_law_take") (spTake K) := fo__law_take T
  have F__law_some : Fo P w K mg base CX0 7 (ad K "_law_some") spSome := fo__law_some T
  have F_cut : Fo P w K mg base (L2.CX P w) 12 (ad K "cut") (spCut K) := fo_cut T
  have F_put : Fo P w K mg base (L2.CX P w) 11 (ad K "put") (spPut K) := fo_put T
  refine T.d__law_grown.ok S (fun _ _ _ _ _ _ us hl => match us, hl with | [_, _, _, _], _ => rfl) (fun vs H Q E h => by obtain ⟨kp, kd, cl, cs, pl, dp, rfl, _⟩ := h; rfl) (fun cdv A outer s H vs Q E hr_cut h => ?_)
  have hr_put := hr_cut.mono (show 11 ≤ 12 by decide)
  have hr__law_some := hr_cut.mono (show 7 ≤ 12 by decide)
  have hr__law_take := hr_cut.mono (show 1 ≤ 12 by decide)
  have hr__law_row := hr__law_take
  have hu6 := hr_cut.units
  have hu9 := Room.u9 hr_cut
  refine ⟨_, (pss_cons (ps_set (i := 4) S.nd rfl (Or.inl rfl) pe_int) (pss_cons (ps_for ownX rfl (pi_list (pv 1)) (pg_name (i := 5) S.nd rfl (Or.inl rfl)) (pss_cons (ps_set (i := 6) S.nd rfl (Or.inl rfl) (pe_fn F__law_row hr__law_row rfl T.b__law_row.g pass0 (pa_cons (pv 5) pa_nil))) (pss_cons (ps_set (i := 7) S.nd rfl (Or.inl rfl) (pe_fn F__law_some hr__law_some rfl T.b__law_some.g pass0 (pa_cons (pv 6) pa_nil))) (pss_cons (ps_if (PW.pt (pw_and (pt_cmpR op_eq (pe_fn F__law_take hr__law_take rfl T.b__law_take.g pass0 (pa_cons (pv 6) (pa_cons pe_int pa_nil))) pe_int (nomark _)) (pw_and1 (pt_cmpR (op_neNil hu6) (pv 2) (pe_lst pa_nil) (nomark _))))) (pss_one (ps_set (i := 7) S.nd rfl (Or.inl rfl) (pe_ix ix_list (pv 2) (pe_fn F__law_take hr__law_take rfl T.b__law_take.g pass0 (pa_cons (pv 6) (pa_cons (pe_callB call_len_seq (by rfl) T.n_len PySem.boot_len (pa_cons (pv 2) pa_nil)) pa_nil))) (fun _ _ => rfl)))) pss_nil) (pss_cons (ps_if (PW.pt (pw_and (pt_cmpR op_eq (pe_fn F__law_take hr__law_take rfl T.b__law_take.g pass0 (pa_cons (pv 6) (pa_cons pe_int pa_nil))) pe_int (nomark _)) (pw_and1 (pt_cmp (Dk.pc_pin hu9 (pv 7) (pv 3)))))) (pss_cons (ps_set (i := 4) S.nd rfl (Or.inl rfl) (pe_fn F_cut hr_cut rfl T.b_cut.g passX (pa_cons (pv 0) (pa_cons (pv 4) (pa_cons (pv 7) pa_nil))))) (pss_one (ps_expr (Dk.pe_ppop hu9 (pv 3) (pv 7) ⟨rfl, rfl, rfl, rfl⟩)))) (pss_cons (Dk.ps_pput hu9 (pv 3) (pv 7) (pe_fn F__law_some hr__law_some rfl T.b__law_some.g pass0 (pa_cons (pv 6) pa_nil)) rfl) (pss_one (ps_set (i := 4) S.nd rfl (Or.inl rfl) (pe_fn F_put hr_put rfl T.b_put.g passX (pa_cons (pv 0) (pa_cons (pv 4) (pa_cons (pv 7) (pa_cons (Dk.pe_pget hu9 (pv 3) (pv 7) (fun _ _ => rfl)) pa_nil))))))))) (pss_one (ps_expr (pe_bm PySem.F.plainAttrs_list PySem.F.slot_list_append PySem.F.type_list_append mt_append (pv 2) (pa_cons (pv 7) pa_nil))))))))) (pss_one (ps_ret (pv 4))))), ?_⟩
  obtain ⟨kp, kd, cl, cs, pl, dp, rfl, hK, hcl, hcs, hpl, hdp, hcp, ec, q⟩ := h
  have g0 : Gs K w H H kp kd pl dp [] [] [] 0 0 := ⟨Step.refl _ _, hK, ⟨⟨[], hpl, .nil⟩, fun t ht => (by cases ht), by simp⟩, hdp, ⟨⟨0, .nil, Nat.le_refl _⟩, Nat.le_refl _⟩, Nat.le_refl _⟩
  have ncl : ∀ d ∈ [kd, pl, dp], cl ≠ d := by
    intro d hd
    simp only [List.mem_cons, List.not_mem_nil, or_false] at hd
    rcases hd with rfl | rfl | rfl
    · intro z
      obtain ⟨kvs, e, _⟩ := hK.dict
      rw [← z, hcl] at e
      cases e
    · exact hcp
    · intro z
      have := hdp.at_
      rw [← z, hcl] at this
      exact not_lst _ (Option.some.inj this).symm
  refine ⟨_, rfl, cl, rfl, ⟨_, SqL.of hcl⟩, for_list (xs := cs.map V.int) (fun i σ H' => ∃ root k ps l v5 v6 v7, σ = [some (.ref kp), some (.ref cl), some (.ref pl), some (.ref dp), some (.int root), v5, v6, v7] ∧ Gs K w H H' kp kd pl dp k ps l root i ∧ ps.length ≤ i) ?_ ?_ ?_ ?_⟩
  · exact ⟨_, _, _, _, _, _, _, rfl, g0, Nat.le_refl _⟩
  · rintro i σ H1 hi ⟨root, k, ps, l, v5, v6, v7, rfl, g, _⟩
    exact SqL.of (g.st _ _ hcl (fun z => ncl _ z rfl))
  · rintro i x σ H1 hx ⟨root, k, ps, l, v5, v6, v7, rfl, g, hps⟩
    rw [List.getElem?_map] at hx
    obtain ⟨c, hc, rfl⟩ := Option.map_eq_some_iff.mp hx
    have hi : i < cs.length := (List.getElem?_eq_some_iff.mp hc).1
    refine ⟨_, rfl, c, rfl, fun H2 rp s2 hrp hR2 => ⟨_, rfl, rp, rfl, hR2, fun H3 xk key t3 hk okk => ?_⟩⟩
    have h0 : H rp = none := g.st.free hrp g.nn
    have n1 : pl ≠ rp := fun z => g.nn pl (by simp) (by rw [z]; exact hrp)
    have n2 : dp ≠ rp := fun z => g.nn dp (by simp) (by rw [z]; exact hrp)
    have g3 := (g.same s2).tk hR2 t3 h0 n1 n2
    refine gName_go ?_
    dsimp only
    refine cutSeq' (fun σ1 H4 => ∃ xk key, σ1 = [some (.ref kp), some (.ref cl), some (.ref pl), some (.ref dp), some (.int root), some (.int c), some (.ref rp), some xk] ∧ Gs K w H H4 kp kd pl dp k ps l root i ∧ RowS H4 rp ∧ IsT H4 xk key ∧ Th2 key) (fun σ1 H4 h => ?_) (fun rest => ?_)
    · obtain ⟨xk, key, rfl, g4, R4, hk, okk⟩ := h
      have dk : key.depth ≤ 6 := Nat.le_trans okk.1.depth (by decide)
      refine cutSeq' (fun σ2 H5 => ∃ root' k' l' xk key, σ2 = [some (.ref kp), some (.ref cl), some (.ref pl), some (.ref dp), some (.int root'), some (.int c), some (.ref rp), some xk] ∧ Gs K w H H5 kp kd pl dp k' ps l' root' (i + 1) ∧ IsT H5 xk key ∧ Th2 key) (fun σ2 H5 h => ?_) (fun rest => ?_)
      · obtain ⟨root', k', l', xk, key, rfl, g5, hk, okk⟩ := h
        obtain ⟨xs, e5, hx5⟩ := g5.po.at_
        refine ⟨_, rfl, .inl ⟨rfl, _, SqL.of e5⟩, _, rfl, pl, xs, xk, rfl, rfl, e5, ?_, ?_⟩
        · rw [hx5.length]
          exact Nat.lt_of_lt_of_le (show ps.length < 22 by omega) (by decide)
        · exact ⟨_, _, _, _, _, _, _, rfl, g5.push e5 hk okk (by omega), by rw [List.length_append, List.length_singleton]; omega⟩
      · refine ⟨_, rfl, rp, 5, rfl, by decide, by decide, R4, fun H5 m t5 m0 m5 => ⟨rfl, _, rfl, ?_⟩⟩
        have g5 := g4.tk R4 t5 h0 n1 n2
        have hk5 := hk.ext (t5.tups R4)
        obtain ⟨z, wf, hz⟩ := g5.tr.wf
        have hlen := g5.tr.len
        have hlim : k.length + 3000 ≤ lim := Nat.le_trans (show _ ≤ 200000 by omega) (by decide)
        refine (fun (B : _) => ite2 (fun c1 => ⟨_, rfl, _, rfl, dp, l, key, rfl, g5.pd, hk5, Nat.le_trans dk (by decide), _, rfl, ite2 (fun c2 => ?A) (fun c2 => B)⟩) (fun c1 => iteF B)) ?B
        case A =>
          refine ⟨_, rfl, _, rfl, _, rfl, .ref kp, root, xk, key, rfl, hk5, dk, g5.kk.run (kp_wq g5.kk.good (wv_cutW key (VS.Good.view (s := .base k) g5.kk.good) wf (by omega)) (ops_cutW root key) hlim) ec fun y k' H6 x Z st K6 e => ?_⟩
          subst e
          obtain ⟨gk', lk', lev, gv, z', wf', hz'⟩ := Z
          have g6 := g5.step st K6 (root' := y) (m := i + 1) ⟨⟨z', wf', by omega⟩, by omega⟩ (Nat.le_succ i)
          refine ⟨_, rfl, dp, rfl, ⟨l, g6.pd.at_⟩, _, rfl, l, key, g6.pd, hk5.ext (st.tups g5.kk.dk), Nat.le_trans dk (by decide), c2, fun v u _ _ => ?_⟩
          refine rest _ _ ⟨y, k', _, xk, key, rfl, g6.plain ⟨_, rfl⟩ g6.pd.drop (Nat.le_trans (Dk.drE_length l key) g6.ln) (Nat.le_refl _), (hk5.ext (st.tups g5.kk.dk)).ext (Dk.tups_upd g6.pd.at_), okk⟩
        case B =>
          refine ⟨_, rfl, rp, rfl, t5.rw_, fun H6 xw wo t6 hw okw => ⟨_, rfl, _, rfl, ?_⟩⟩
          have g6 := g5.tk t5.rw_ t6 h0 n1 n2
          have hk6 := hk5.ext (t6.tups t5.rw_)
          have hln : l.length < sizeLine := Nat.lt_of_lt_of_le (show l.length < 22 from Nat.lt_of_le_of_lt g6.ln (by omega)) (by decide)
          refine ⟨dp, l, key, rfl, g6.pd, hk6, Nat.le_trans dk (by decide), hln, fun ku u rk ru => ?_⟩
          have pd7 := g6.pd.put (Nat.le_trans dk (by decide)) rk hk6 ru hw (okw.1.mono (by decide)) hln
          have tu := Dk.tups_upd (l' := Dk.stE l key ku u) g6.pd.at_
          have g7 := g6.plain ⟨_, rfl⟩ pd7 (m := i + 1) (Nat.le_trans (Dk.stE_length l key ku u) (by have := g6.ln; omega)) (Nat.le_succ i)
          obtain ⟨b0, e0⟩ := Dk.atE_st l key ku u
          refine ⟨_, rfl, _, rfl, _, rfl, _, rfl, _, rfl, dp, _, key, rfl, pd7, hk6.ext tu, Nat.le_trans dk (by decide), by rw [e0]; rfl, fun v u' hb rv => ?_⟩
          obtain ⟨b, e⟩ := hb
          rw [e0] at e
          cases e
          have ev : v = xw := RelV.inj rv ru
          subst ev
          refine ⟨.ref kp, root, xk, v, key, wo, rfl, hk6.ext tu, hw.ext tu, okk.1, g7.kk.run (kp_wq g7.kk.good (wv_putW okk.1 okw.1 okk.2 okw.2 (VS.Good.view (s := .base k) g7.kk.good) wf (by omega)) (ops_putW root key wo) (by omega)) ec fun y k' H8 x Z st K8 e => ?_⟩
          subst e
          obtain ⟨gk', lk', lev, gv, z', wf', hz'⟩ := Z
          exact rest _ _ ⟨y, k', _, xk, key, rfl, g7.step st K8 ⟨⟨z', wf', by omega⟩, by omega⟩ (Nat.le_refl _), (hk6.ext tu).ext (st.tups g7.kk.dk), okk⟩
    · refine ⟨_, rfl, rp, 3, rfl, by decide, by decide, t3.rw_, fun H4 m t4 m0 m3 => ⟨rfl, _, rfl, ?_⟩⟩
      have g4 := g3.tk t3.rw_ t4 h0 n1 n2
      have hk4 := hk.ext (t4.tups t3.rw_)
      refine ite2 (fun c1 => ?_) (fun c1 => iteF (rest _ _ ⟨xk, key, rfl, g4, t4.rw_, hk4, okk⟩))
      obtain ⟨xs, e4, hx4⟩ := g4.po.at_
      refine ⟨_, rfl, by show 0 ≤ sizeLine; decide, fun q0 hq0 => ?_⟩
      have s5 := same_put (o := .lst []) (Same.refl H4) hq0
      refine ⟨NestedKey.datas ps, .lst (SqL.of (s5 _ _ e4)) (IsTs.dp (hx4.ext (Same.tups s5))), .lst (SqL.of upd_same) .nil, datas_plain ps, _, rfl, ?_⟩
      have g5 := g4.same s5
      have R5 := t4.rw_.same s5
      have hk5 := hk4.same s5
      generalize upd H4 q0 (.lst []) = H5 at s5 g5 R5 hk5 ⊢
      cases ps with
      | nil => exact iteF (rest _ _ ⟨xk, key, rfl, g5, R5, hk5, okk⟩)
      | cons a ps =>
        refine iteT ⟨_, rfl, _, rfl, _, rfl, _, _, rfl, .inl (SqL.of (s5 _ _ e4)), ?_⟩
        rw [hx4.length]
        refine ⟨rp, ((a :: ps).length : Int), rfl, by rw [List.length_cons]; omega, ?_, R5, fun H6 n t6 n0 nl => ?_⟩
        · rw [Int.natAbs_natCast]
          exact Nat.lt_of_le_of_lt (show (a :: ps).length ≤ 1000 by omega) (by decide)
        · obtain ⟨j, rfl⟩ := Int.eq_ofNat_of_zero_le n0
          have hj : j < (a :: ps).length := by omega
          obtain ⟨y, hy, hyT⟩ := hx4.get' (List.getElem?_eq_getElem hj)
          exact ⟨pl, xs, _, y, rfl, rfl, SqL.of (t6.bt _ _ (s5 _ _ e4) n1), atI_nat hy, rest _ _ ⟨y, _, rfl, g5.tk R5 t6 h0 n1 n2, t6.rw_, (hyT.ext (Same.tups s5)).ext (t6.tups R5), g4.po.ok _ (List.getElem_mem hj)⟩⟩
  · rintro σ H1 ⟨root, k, ps, l, v5, v6, v7, rfl, g, hps⟩
    have e : (cs.map V.int).length ≤ 21 := by rw [List.length_map]; exact hcs
    obtain ⟨z, a, b⟩ := g.tr.wf
    exact ⟨_, rfl, q H1 root k ps g.st g.kk ⟨⟨z, a, Nat.le_trans b e⟩, Nat.le_trans g.tr.len (Nat.mul_le_mul_left _ e)⟩ g.po (Nat.le_trans hps e)⟩
end Wk
set_option Elab.async false
set_option linter.all false
set_option maxRecDepth 100000
set_option maxHeartbeats 4000000
/-! The plain law of one ask. -/
namespace Wk
open PySem PySem.Spec PyProof.Rows L2 Pv Ph
def Asked (k : Store) (root : Int) (q : Qs) (an : An) (pts : List Th) : Prop := ∃ o m, Runs (q.run root) (.reader k [] []) an (.reader k o m) ∧ m.Good ∧ SubS m k ∧ Things m pts ∧ ADepth 5 an ∧ m.length ≤ 400000
theorem awp_wq {k : Store} {root : Int} {n : Nat} {q : Qs} (gk : k.Good) (tr : TreeAt k root n) (hn : n < 300) (ok : q.Ok) (hl : q.len ≤ 100) :
    wq (q.run root) (.reader k [] []) (fun an s' => ∃ o m, s' = .reader k o m ∧ m.length < lim ∧ m.length ≤ 400000 ∧ Runs (q.run root) (.reader k [] []) an (.reader k o m) ∧ m.Good ∧ SubS m k ∧ ADepth 5 an) SClash := by
  obtain ⟨z, wf, hz⟩ := tr.wf
  have gr : (VS.reader k [] []).Good := ⟨gk, .nil, .nil⟩
  have wf' : WF (VS.view (.reader k [] [])) root z := wf.mono fun m t e => by
    show (Store.get [] m).or (Store.get k m) = some t
    exact e
  refine wq_mono _ _ (fun an s' h => ?_) (fun e h => h) (wq_of (q.run root) (.reader k [] []) (wp_runs _ _ (wp_of_wv (q.run root) (.reader k [] []) gr (wv_qs ok (VS.Good.view gr) wf' (by omega)))) (ops_qs q root) (by show 0 + 4000 * q.len ≤ lim; exact Nat.le_trans (show _ ≤ 400000 by omega) (by decide)))
  obtain ⟨⟨r, g, kn, lev, gv, ad⟩, sz⟩ := h
  cases s' with
  | base _ => exact kn.elim
  | reader k' o m =>
    have e : k' = k := kn
    subst e
    have sz : o.length + m.length ≤ 0 + 4000 * q.len := sz
    obtain ⟨o', m', e, _, sub, _⟩ := r.noted rfl (SubS.nil k')
    cases e
    exact ⟨o, m, rfl, Nat.lt_of_le_of_lt (show m.length ≤ 400000 by omega) (by decide), by omega, r, g.2.2, sub, ad⟩
theorem Asked.sub {k : Store} {root : Int} {q : Qs} {an : An} {pts : List Th} (a : Asked k root q an pts) : (∀ t ∈ pts, Ok 3 t ∧ Store.get k (sealOf t) = some t) ∧ (pts.map sealOf).Pairwise (· < ·) ∧ pts.length ≤ 400000 := by
  obtain ⟨o, m, r, g, sub, th, ad, hm⟩ := a
  refine ⟨fun t ht => ⟨th.ok g t ht, sub _ _ ((th.mem g).mp ht)⟩, th.seals g, ?_⟩
  obtain ⟨ns, p, _, e⟩ := th
  have h1 := p.length_eq
  have h2 := congrArg List.length e
  rw [List.length_map, List.length_map] at h2
  rw [List.length_map] at h1
  omega
theorem own_wq {k : Store} {root : Int} {q : Qs} {an : An} {pts zs : List Th} (a : Asked k root q an pts) (hl : q.len ≤ 100) (ok : ∀ t ∈ zs, Ok 3 t) (sub : ∀ t ∈ pts, t ∈ zs) (hz : zs.length ≤ 3000000) :
    wq (layAll zs) (.base []) (fun _ s' => wq (q.run root) s' (fun an' _ => an' = an) SClash) SClash := by
  obtain ⟨o, m, r, g, subk, th, ad, hm⟩ := a
  refine wq_mono _ _ (fun _ s' h => ?_) (fun e h => h) (wq_of (layAll zs) (.base []) (wp_layAll zs [] ok .nil) (ops_layAll zs) (Nat.le_trans (show 0 + zs.length ≤ 3000000 by omega) (by decide)))
  obtain ⟨⟨w', rfl, gw, _, hw⟩, sz⟩ := h
  have sz : w'.length ≤ 0 + zs.length := sz
  refine wq_mono _ _ (fun an' s2 h => h.1.1) (fun e h => h) (wq_of (q.run root) (.base w') (replay r rfl rfl (SubS.nil k) (SubS.nil w') (fun n t e => ?_) gw) (ops_qs q root) (Nat.le_trans (show w'.length + 4000 * q.len ≤ 3400000 by omega) (by decide)))
  obtain ⟨_, es⟩ := Store.Good.get g e
  rw [← es] at e ⊢
  exact hw t (sub t ((th.mem g).mpr e))
theorem lacks_wq {k : Store} {root : Int} {q : Qs} {an : An} {as bs : List Th} {t0 : Th} (a : Asked k root q an (as ++ t0 :: bs)) (hl : q.len ≤ 100) :
    wq (layAll (as ++ bs)) (.base []) (fun _ s' => wq (q.run root) s' (fun _ _ => False) (fun e => e = .noPaper)) (fun _ => False) := by
  obtain ⟨ok, pw, len⟩ := a.sub
  obtain ⟨o, m, r, g, subk, th, ad, hm⟩ := a
  have len' : (as ++ bs).length ≤ 400000 := by
    rw [List.length_append, List.length_cons] at len
    rw [List.length_append]
    omega
  have inl : ∀ t ∈ as ++ bs, t ∈ as ++ t0 :: bs := fun t ht => by
    rcases List.mem_append.mp ht with h | h
    · exact List.mem_append_left _ h
    · exact List.mem_append_right _ (List.mem_cons_of_mem _ h)
  refine wq_mono _ _ (fun _ s' h => ?_) (fun e h => h) (wq_of (layAll (as ++ bs)) (.base []) (wp_layAll_sub (k := k) (as ++ bs) [] (fun t ht => ok t (inl t ht)) .nil (SubS.nil k)) (ops_layAll _) (Nat.le_trans (show 0 + (as ++ bs).length ≤ 400000 by omega) (by decide)))
  obtain ⟨⟨w', rfl, gw, subw, _, _, only⟩, sz⟩ := h
  have sz : w'.length ≤ 0 + (as ++ bs).length := sz
  have h0 : Store.get m (sealOf t0) = some t0 := (th.mem g).mp (List.mem_append_right _ List.mem_cons_self)
  have ne : Store.get w' (sealOf t0) = none := by
    cases e : Store.get w' (sealOf t0) with
    | none => rfl
    | some u =>
      exfalso
      have hs := (Store.Good.get gw e).2
      rcases only _ _ e with z | z
      · cases z
      · rw [List.map_append, List.map_cons, List.pairwise_append] at pw
        obtain ⟨_, p2, p3⟩ := pw
        rcases List.mem_append.mp z with z | z
        · have := p3 (sealOf u) (List.mem_map_of_mem z) (sealOf t0) List.mem_cons_self
          omega
        · have := (List.pairwise_cons.mp p2).1 (sealOf u) (List.mem_map_of_mem z)
          omega
  refine wq_mono _ _ (fun an' s2 h => h.1) (fun e h => h) (wq_of (q.run root) (.base w') (lacks r rfl rfl (SubS.nil k) (SubS.nil w') (fun n t e => .inr (subw n t e)) h0 rfl ne) (ops_qs q root) (Nat.le_trans (show w'.length + 4000 * q.len ≤ 3400000 by omega) (by decide)))
end Wk
set_option Elab.async false
set_option linter.all false
set_option maxRecDepth 100000
set_option maxHeartbeats 4000000
/-! The law's helpers: right. -/
namespace Wk
open PySem PySem.Spec PyProof.Rows L2 Pv Ph
variable {P : Program} {w : World} {K : PySem.W.Frag} {mg : Str → Option Value} {base : Heap}
/-- what moves on: tuples, instances, lists but the row -/
structure Mv (rp : Addr) (H H' : Hp) : Prop where
  t : Tups H H'
  l : ∀ a xs, a ≠ rp → H a = some (.lst xs) → H' a = some (.lst xs)
  i : InsK H H'
theorem Mv.refl (rp : Addr) (H : Hp) : Mv rp H H := ⟨Tups.refl H, fun _ _ _ e => e, fun _ _ _ _ e => e⟩
theorem Mv.trans {rp : Addr} {H H1 H2 : Hp} (a : Mv rp H H1) (b : Mv rp H1 H2) : Mv rp H H2 := ⟨Tups.trans a.t b.t, fun c xs n e => b.l c xs n (a.l c xs n e), fun c C dx fs e => b.i _ _ _ _ (a.i _ _ _ _ e)⟩
theorem Mv.same {rp : Addr} {H H1 : Hp} (s : Same H H1) : Mv rp H H1 := ⟨Same.tups s, fun a xs _ e => s _ _ e, Same.insk s⟩
theorem Mv.tk {rp : Addr} {H H1 : Hp} (hR : RowS H rp) (t : Tk rp H H1) : Mv rp H H1 := ⟨t.tups hR, fun a xs n e => t.bt _ _ e n, fun a C dx fs e => t.bt _ _ e fun z => by
  obtain ⟨xs, q⟩ := hR.isLst
  rw [z, q] at e
  cases e⟩
theorem Mv.step {rp : Addr} {M : List Addr} {H H1 : Hp} (dk : ∀ d ∈ M, ∃ kvs, H d = some (.dK kvs)) (st : Step M H H1) : Mv rp H H1 := ⟨st.tups dk, fun a xs _ e => st.lsts dk _ _ e, st.insk dk⟩
theorem Mv.ax {rp : Addr} {H H1 : Hp} (m : Mv rp H H1) {x : V} {an : An} (h : IsAx (fun E => E = rp) H x an) : IsAx (fun E => E = rp) H1 x an := h.go m.t (fun _ z => z) (fun a xs n e => m.l a xs n e)
theorem Mv.q {K : PySem.W.Frag} {rp : Addr} {H H1 : Hp} (m : Mv rp H H1) (hR : RowS H rp) {x : V} {q : Qs} (h : QsV K H x q) : QsV K H1 x q := by
  cases q with
  | one a => exact AskV.ext m.i m.t h
  | also l' =>
    obtain ⟨a, dx, p, xs, e, ha, hp, hx⟩ := h
    have hx' : Paired (AskV K H1) xs l' := Paired.mapP hx fun _ _ z => z.ext m.i m.t
    by_cases z : p = rp
    · exfalso
      obtain ⟨u, v, e2, _⟩ := hR
      rw [z, e2] at hp
      cases hp
      cases hx with
      | cons h1 _ =>
        obtain ⟨_, _, _, e3, _⟩ := h1
        cases e3
    · exact ⟨a, dx, p, xs, e, m.i _ _ _ _ ha, m.l _ _ z hp, hx'⟩
section
variable {K : PySem.W.Frag}
structure Co (K : PySem.W.Frag) (H0 H : Hp) (kp kd rp : Addr) (k : Store) : Prop where
  st : Step [kd, rp] H0 H
  kk : KeepAt K H kp kd k
  row : RowS H rp
variable {H0 H H1 : Hp} {kp kd rp : Addr} {k : Store}
theorem Co.same (c : Co K H0 H kp kd rp k) (s : Same H H1) : Co K H0 H1 kp kd rp k := ⟨c.st.trans (Step.of_same s), c.kk.same s, c.row.same s⟩
theorem Co.tk (c : Co K H0 H kp kd rp k) (t : Tk rp H H1) : Co K H0 H1 kp kd rp k := ⟨c.st.trans fun b o e n => t.bt b o e fun z => n (by rw [z]; simp), c.kk.tk c.row t, t.rw_⟩
theorem Co.step (c : Co K H0 H kp kd rp k) (st : Step [kd] H H1) (kk : KeepAt K H1 kp kd k) : Co K H0 H1 kp kd rp k := by
  refine ⟨c.st.trans (st.mono fun b hb => by rw [List.mem_singleton.mp hb]; exact List.mem_cons_self), kk, ?_⟩
  obtain ⟨a, b, e, ok⟩ := c.row
  exact ⟨a, b, st.keep c.kk.dk e (fun _ z => nomatch z), ok⟩
end
/-- a list that holds the paper -/
def GL (rp : Addr) (pts : List Th) (H : Hp) (a : Addr) : Prop := ∃ xs zs, H a = some (.lst xs) ∧ IsTs H xs zs ∧ (∀ t ∈ zs, Ok 3 t) ∧ (∀ t ∈ pts, t ∈ zs) ∧ zs.length ≤ 3000000 ∧ a ≠ rp
theorem GL.mv {rp : Addr} {pts : List Th} {H H1 : Hp} {a : Addr} (h : GL rp pts H a) (m : Mv rp H H1) : GL rp pts H1 a := by
  obtain ⟨xs, zs, e, hx, ok, sub, l, n⟩ := h
  exact ⟨xs, zs, m.l _ _ n e, hx.ext m.t, ok, sub, l, n⟩
theorem rev_isTs {H : Hp} : ∀ {xs : List V} {ts : List Th}, IsTs H xs ts → IsTs H xs.reverse ts.reverse
  | _, [], h => by cases h; exact .nil
  | _, t :: ts, h => by
    cases h with
    | cons h1 h2 =>
      rw [List.reverse_cons, List.reverse_cons]
      exact IsTs.snoc (rev_isTs h2) h1
theorem depth3 {ts : List Th} (ok : ∀ t ∈ ts, Ok 3 t) : (PyData.list (NestedKey.datas ts)).depth ≤ 60 := by
  have h : NestedKey.depthAll ts ≤ 3 := OkAll.depth (OkAll_iff.mpr ok)
  have e := datas_depth ts
  simp only [PyData.depth]
  omega
/-- a list of the keeper's things -/
structure Bes (H : Hp) (k : Store) (bl : Addr) (bts : List Th) : Prop where
  at_ : ∃ xs, H bl = some (.lst xs) ∧ IsTs H xs bts
  ok : ∀ t ∈ bts, Ok 3 t
  len : bts.length ≤ 400000
theorem GL.cat {H : Hp} {rp r : Addr} {pts as bs : List Th} {xs ys : List V} (ha : IsTs H xs as) (hb : IsTs H ys bs) (oka : ∀ t ∈ as, Ok 3 t) (okb : ∀ t ∈ bs, Ok 3 t) (sub : (∀ t ∈ pts, t ∈ as) ∨ ∀ t ∈ pts, t ∈ bs) (la : as.length ≤ 1000000) (lb : bs.length ≤ 1000000) (hr : H r = none) (row : RowS H rp) : GL rp pts (upd H r (.lst (xs ++ ys))) r := by
  have tu := Same.tups (same_put (o := .lst (xs ++ ys)) (Same.refl H) hr)
  refine ⟨xs ++ ys, as ++ bs, upd_same, (ha.ext tu).append (hb.ext tu), ?_, ?_, by rw [List.length_append]; omega, row.ne hr⟩
  · intro t ht
    rcases List.mem_append.mp ht with h | h
    · exact oka t h
    · exact okb t h
  · intro t ht
    rcases sub with h | h
    · exact List.mem_append_left _ (h t ht)
    · exact List.mem_append_right _ (h t ht)
theorem cut_take {xs : List V} {j : Nat} (h : j ≤ xs.length) : cutV xs none (some (j : Int)) = xs.take j := by
  unfold cutV
  rw [HT.sIx_none, HT.sIx_nat, List.drop_zero, Nat.min_eq_left h, Nat.sub_zero]
theorem cut_drop {xs : List V} {j : Nat} (h : j ≤ xs.length) : cutV xs (some (j : Int)) none = xs.drop j := by
  unfold cutV
  rw [HT.sIx_none, HT.sIx_nat, Nat.min_eq_left h]
  exact List.take_of_length_le (by rw [List.length_drop]; omega)
theorem IsTs.take {H : Hp} : ∀ {xs : List V} {ts : List Th} (j : Nat), IsTs H xs ts → IsTs H (xs.take j) (ts.take j)
  | _, [], j, h => by cases h; cases j <;> exact .nil
  | _, t :: ts, 0, h => by cases h; exact .nil
  | _, t :: ts, j + 1, h => by
    cases h with
    | cons h1 h2 => exact .cons h1 (IsTs.take j h2)
theorem IsTs.drop {H : Hp} : ∀ {xs : List V} {ts : List Th} (j : Nat), IsTs H xs ts → IsTs H (xs.drop j) (ts.drop j)
  | _, [], j, h => by cases h; cases j <;> exact .nil
  | _, t :: ts, 0, h => h
  | _, t :: ts, j + 1, h => by
    cases h with
    | cons h1 h2 => exact IsTs.drop j h2
def spRight (K : PySem.W.Frag) : Sp := fun vs H Q E => ∃ kp kd k root n x q rp bl bts, vs = [.ref kp, .int root, x, .ref rp, .ref bl] ∧ KeepAt K H kp kd k ∧ TreeAt k root n ∧ n < 300 ∧ k.length ≤ 1000000 ∧ QsV K H x q ∧ q.Ok ∧ q.len ≤ 100 ∧ RowS H rp ∧ Bes H k bl bts ∧ bl ≠ rp ∧ EC K E ∧
  ∀ H', Step [kd, rp] H H' → KeepAt K H' kp kd k → Q (.bl true) H'
theorem fo__law_right (T : Tx K mg) : Fo P w K mg base (L2.CX P w) 17 (ad K "_law_right") (spRight K) := by
  have S : FnScope ["keeper", "root", "ask", "row", "beside", "things", "told", "answer", "paper", "more", "others", "some", "handed", "at"] ["keeper", "root", "ask", "row", "beside"] (defScope (top 101)) := ⟨rfl, rfl, rfl, by decide +kernel, rfl, by decide +kernel, by decide +kernel⟩
  have F_Keeper_things : Fo P w K mg base CX0 1 (am K "Keeper" "things") (spThings K "Keeper" "by_seal") := fo_things T
  have F_answer_with_paper : Fo P w K mg base (L2.CX P w) 15 (ad K "answer_with_paper") (spAwp K) := fo_answer_with_paper T
  have F__law_paper_right : Fo P w K mg base (L2.CX P w) 7 (ad K "_law_paper_right") (spPRight K) := fo__law_paper_right T
  have F__law_copy : Fo P w K mg base CX0 4 (ad K "_law_copy") (spCopy 3) := fo__law_copy T 3
  have F__law_own : Fo P w K mg base (L2.CX P w) 15 (ad K "_law_own") (spOwn K) := fo__law_own T
  have F__law_others : Fo P w K mg base CX0 8 (ad K "_law_others") spOthers := fo__law_others T
  have F__law_take : Fo P w K mg base CX0 1 (ad K "_law_take") (spTake K) := fo__law_take T
  have F_checked : Fo P w K mg base (L2.CX P w) 15 (ad K "checked") (spChecked K) := fo_checked T
  have F__law_lacks : Fo P w K mg base CX0 16 (ad K "_law_lacks") (spLacks K) := fo__law_lacks T
  refine T.d__law_right.ok S (fun _ _ _ _ _ _ us hl => match us, hl with | [_, _, _, _, _], _ => rfl) (fun vs H Q E h => by obtain ⟨kp, kd, k, root, n, x, q, rp, bl, bts, rfl, _⟩ := h; rfl) (fun cdv A outer s H vs Q E hr__law_lacks h => ?_)
  have hr_checked := hr__law_lacks.mono (show 15 ≤ 16 by decide)
  have hr__law_own := hr_checked
  have hr_answer_with_paper := hr_checked
  have hr__law_take := hr_checked.mono (show 1 ≤ 15 by decide)
  have hr_Keeper_things := hr__law_take
  have hr__law_others := hr_checked.mono (show 8 ≤ 15 by decide)
  have hr__law_copy := hr_checked.mono (show 4 ≤ 15 by decide)
  have hr__law_paper_right := hr_checked.mono (show 7 ≤ 15 by decide)
  have hu6 := hr__law_lacks.units
  refine ⟨_, (pss_cons (ps_set (i := 5) S.nd rfl (Or.inl rfl) (pe_callTy call_list_of (by rfl) T.n_list (by decide +kernel) (pa_cons (pe_mt0 F_Keeper_things hr_Keeper_things (pv 0) T.c_Keeper T.m_Keeper_things.meth pass0) pa_nil))) (pss_cons (ps_set (i := 6) S.nd rfl (Or.inl rfl) (pe_fn F_answer_with_paper hr_answer_with_paper rfl T.b_answer_with_paper.g passX (pa_cons (pv 0) (pa_cons (pv 1) (pa_cons (pv 2) pa_nil))))) (pss_cons (ps_if (PW.pt (pw_or (pt_not (pt_val (pe_callB call_isi (by rfl) T.n_isinstance (by decide +kernel) (pa_cons (pv 6) (pa_cons (pe_bltn (v := V.ty "tuple") (u := Value.type "tuple") rfl T.n_tuple (by decide +kernel) rfl) pa_nil))))) (pw_or (pt_cmpR op_ne (pe_callB call_len_seq (by rfl) T.n_len PySem.boot_len (pa_cons (pv 6) pa_nil)) pe_int (nomark _)) (pw_or1 (pt_not (pt_val (pe_fn F__law_paper_right hr__law_paper_right rfl T.b__law_paper_right.g passX (pa_cons (pv 0) (pa_cons (pe_ix ix_tup (pv 6) pe_int (fun _ _ => rfl)) pa_nil))))))))) (pss_one (ps_ret pe_bl)) pss_nil) (pss_cons (ps_set (i := 7) S.nd rfl (Or.inl rfl) (pe_fn F__law_copy hr__law_copy rfl T.b__law_copy.g pass0 (pa_cons (pe_ix ix_tup (pv 6) pe_int (fun _ _ => rfl)) pa_nil))) (pss_cons (ps_set (i := 8) S.nd rfl (Or.inl rfl) (pe_callTy call_list_of (by rfl) T.n_list (by decide +kernel) (pa_cons (pe_ix ix_tup (pv 6) pe_int (fun _ _ => rfl)) pa_nil))) (pss_cons (ps_if (PW.pt (pw_or (pt_cmpR (op_neS hu6) (pe_fn F__law_own hr__law_own rfl T.b__law_own.g passX (pa_cons (pv 5) (pa_cons (pv 1) (pa_cons (pv 2) pa_nil)))) (pv 7) (nomark _)) (pw_or1 (pt_cmpR (op_neS hu6) (pe_mt0 F_Keeper_things hr_Keeper_things (pv 0) T.c_Keeper T.m_Keeper_things.meth pass0) (pv 5) (nomark _))))) (pss_one (ps_ret pe_bl)) pss_nil) (pss_cons (ps_set (i := 9) S.nd rfl (Or.inl rfl) (pe_fn F__law_others hr__law_others rfl T.b__law_others.g pass0 (pa_cons (pv 3) (pa_cons (pv 8) pa_nil)))) (pss_cons (ps_set (i := 10) S.nd rfl (Or.inl rfl) (pe_lst (pa_cons (Ls.pe_listRev rfl (by rfl) T.n_list (by rfl) T.n_reversed (pv 8)) (pa_cons (pe_op op_cat (pv 8) (pv 8)) (pa_cons (pe_op op_cat (pv 9) (pv 8)) (pa_cons (pe_op op_cat (pv 8) (pv 9)) (pa_cons (pe_op op_cat (pv 4) (pv 8)) (pa_cons (pe_op op_cat (pv 8) (pv 4)) pa_nil)))))))) (pss_cons (ps_for ownX rfl (pi_list (pe_lst (pa_cons (pv 8) (pa_cons (pe_ix ix_list (pv 10) (pe_fn F__law_take hr__law_take rfl T.b__law_take.g pass0 (pa_cons (pv 3) (pa_cons pe_int pa_nil))) (fun _ _ => rfl)) pa_nil)))) (pg_name (i := 11) S.nd rfl (Or.inl rfl)) (pss_cons (ps_set (i := 12) S.nd rfl (Or.inl rfl) (pe_callTy call_list_of (by rfl) T.n_list (by decide +kernel) (pa_cons (pv 11) pa_nil))) (pss_one (ps_if (PW.pt (pw_or (pt_cmpR (op_neS hu6) (pe_fn F_checked hr_checked rfl T.b_checked.g passX (pa_cons (pv 1) (pa_cons (pv 2) (pa_cons (pv 12) pa_nil)))) (pv 7) (nomark _)) (pw_or1 (pt_cmpR (op_neS hu6) (pv 12) (pv 11) (nomark _))))) (pss_one (ps_ret pe_bl)) pss_nil)))) (pss_cons (ps_set (i := 13) S.nd rfl (Or.inl rfl) (pe_fn F__law_take hr__law_take rfl T.b__law_take.g pass0 (pa_cons (pv 3) (pa_cons (pe_op op_add (pe_callB call_len_seq (by rfl) T.n_len PySem.boot_len (pa_cons (pv 8) pa_nil)) pe_int) pa_nil)))) (pss_cons (ps_if (PW.pt (pw_and (pt_cmpR op_lt (pv 13) (pe_callB call_len_seq (by rfl) T.n_len PySem.boot_len (pa_cons (pv 8) pa_nil)) (nomark _)) (pw_and1 (pt_not (pt_val (pe_fn F__law_lacks hr__law_lacks rfl T.b__law_lacks.g pass0 (pa_cons (pv 1) (pa_cons (pv 2) (pa_cons (pe_op op_cat (pe_slice sl_list (pv 8) po_none (po_some (pv 13))) (pe_slice sl_list (pv 8) (po_some (pe_op op_add (pv 13) pe_int)) po_none)) pa_nil))))))))) (pss_one (ps_ret pe_bl)) pss_nil) (pss_one (ps_ret (pe_and (pe_cmpR (op_eqS hu6) (pe_fn F_checked hr_checked rfl T.b_checked.g passX (pa_cons (pv 1) (pa_cons (pv 2) (pa_cons (pv 8) pa_nil)))) (pv 7) (nomark _)) (pe_one (pe_cmpR (op_eqS hu6) (pv 6) (pe_tup (pa_cons (pv 7) (pa_cons (pv 8) pa_nil))) (nomark _))))))))))))))))), ?_⟩
  obtain ⟨kp, kd, k, root, n, x, q, rp, bl, bts, rfl, hK, tr, hn, hk, hQ, okq, hql, hR, hB, hbr, ec, fin⟩ := h
  obtain ⟨dx, hkp⟩ := hK.ins
  have klt : k.length < lim := Nat.lt_of_le_of_lt hk (by decide)
  have c0 : Co K H H kp kd rp k := ⟨Step.refl _ _, hK, hR⟩
  -- the keeper's things
  refine ⟨_, rfl, kp, dx, _, rfl, hkp, rfl, kp, kd, k, rfl, ⟨⟨dx, _, hkp, rfl⟩, hK.dict⟩, hK.good, klt, fun H1 p0 xs0 ts0 s1 hp0 hx0 ht0 th0 => ⟨p0, xs0, rfl, .inl (SqL.of hx0), fun l hl => ?_⟩⟩
  have s2 := s1.trans (same_put (o := .lst xs0) (Same.refl H1) hl)
  have hl0 : H l = none := s1.free hl
  have lrp : l ≠ rp := hR.ne hl0
  have hl2 : upd H1 l (.lst xs0) l = some (.lst xs0) := upd_same
  have ht2 := ht0.ext (Same.tups (same_put (o := .lst xs0) (Same.refl H1) hl))
  generalize upd H1 l (.lst xs0) = H2 at s2 hl2 ht2 ⊢
  have c2 := c0.same s2
  have len0 : ts0.length ≤ 1000000 := by
    obtain ⟨ns, p, _, e⟩ := th0
    have h1 := p.length_eq
    have h2 := congrArg List.length e
    rw [List.length_map, List.length_map] at h2
    rw [List.length_map] at h1
    omega
  have ok0 := th0.ok hK.good
  -- the answer with its paper
  refine ⟨_, rfl, _, rfl, _, rfl, kp, dx, kd, k, root, x, q, rfl, s2 _ _ hkp, c2.kk.dict, c2.kk.good, hQ.ext (Same.insk s2) (Same.tups s2) (Same.lsts s2), okq, hql, ?_⟩
  refine wq_mono _ _ (fun an s' h => ?_) (fun e z H' cls d s ex => ec e z H' cls d ex) (awp_wq hK.good tr hn okq hql)
  obtain ⟨o, m, rfl, mlt, m4, runs, gm, sub, ad⟩ := h
  refine ⟨o, m, rfl, mlt, fun H3 t y pp pxs pts s3 ht hy hpp hpp0 hpx thm _ => ?_⟩
  have aq : Asked k root q an pts := ⟨o, m, runs, gm, sub, thm, ad, m4⟩
  obtain ⟨okp, pwp, plen⟩ := aq.sub
  have c3 := c2.same s3
  have m23 := Mv.same (rp := rp) s3
  have rpne : H2 rp ≠ none := by
    obtain ⟨a, b, e, _⟩ := c2.row
    rw [e]; exact fun z => nomatch z
  have pprp : pp ≠ rp := fun z => rpne (by rw [← z]; exact hpp0)
  have hy3 : IsAx (fun E => E = rp) H3 y an := hy.1.go (Tups.refl H3) (fun a z => by rw [z]; exact rpne) (fun a xs _ e => e)
  have nst := hy.2
  refine ⟨_, rfl, _, _, _, _, _, rfl, .ty _, .base (.tup ht), kit_ty (show kitB "tuple" "tuple" = some true by decide +kernel), _, rfl, iteF ?_⟩
  refine ⟨_, rfl, _, _, rfl, .inr (SqT.of ht), rfl, _, rfl, iteF ?_⟩
  refine ⟨_, rfl, _, rfl, t, _, _, _, rfl, rfl, SqT.of ht, atI_nat (j := 1) rfl, kp, kd, k, pp, pxs, pts, rfl, c3.kk, klt, hpp, hpx, okp, pwp, Nat.lt_of_le_of_lt plen (by decide), fun H4 st4 K4 => ⟨_, rfl, iteF ?_⟩⟩
  have c4 := c3.step st4 K4
  have m34 := Mv.step (rp := rp) c3.kk.dk st4
  have ht4 := m34.t _ _ ht
  have hpp4 : H4 pp = some (.lst pxs) := st4.lsts c3.kk.dk _ _ hpp
  have hpx4 := hpx.ext m34.t
  have hy4 := m34.ax hy3
  -- answer, paper
  refine ⟨_, rfl, t, _, _, _, rfl, rfl, SqT.of ht4, atI_nat (j := 0) rfl, y, an, rfl, hy4.isa, nst, fun H5 ya s5 hax hya => ?_⟩
  have c5 := c4.same s5
  have m45 := Mv.same (rp := rp) s5
  have rpne4 : H4 rp ≠ none := by
    obtain ⟨a, b, e, _⟩ := c4.row
    rw [e]; exact fun z => nomatch z
  have hya5 : IsAx (fun E => E = rp) H5 ya an := hax.go (Tups.refl H5) (fun a z => by rw [z]; exact rpne4) (fun a xs _ e => e)
  refine ⟨_, rfl, t, _, _, _, rfl, rfl, SqT.of (s5 _ _ ht4), atI_nat (j := 1) rfl, pp, pxs, rfl, .inl (SqL.of (s5 _ _ hpp4)), fun pl hpl => ?_⟩
  have s6 := same_put (o := .lst pxs) (Same.refl H5) hpl
  have c6 := c5.same s6
  have prp : pl ≠ rp := c5.row.ne hpl
  have hpl6 : upd H5 pl (.lst pxs) pl = some (.lst pxs) := upd_same
  have m56 := Mv.same (rp := rp) s6
  have hpx6 := hpx4.ext (m45.trans m56).t
  have hya6 := m56.ax hya5
  have hy6 := (m45.trans m56).ax hy4
  have ht6 := (m45.trans m56).t _ _ ht4
  have hpp6 := (m45.trans m56).l _ _ pprp hpp4
  have m26 := m23.trans (m34.trans (m45.trans m56))
  have m06 := (Mv.same (rp := rp) s2).trans m26
  generalize upd H5 pl (.lst pxs) = H6 at c6 hpl6 hpx6 hya6 hy6 ht6 hpp6 m26 m06 ⊢
  clear m56 s6 hya5 c5 m45 hy4 hpx4 hpp4 ht4 m34 c4 hy3 m23 c3
  have hl6 : H6 l = some (.lst xs0) := m26.l _ _ lrp hl2
  have ht06 := ht2.ext m26.t
  have adp : (adat an).depth ≤ 60 := Nat.le_trans (adat_depth ad) (by decide)
  -- another keeper of the same things; the keeper has no thing more
  refine ⟨_, rfl, _, rfl, _, rfl, l, root, x, xs0, ts0, q, rfl, hl6, ht06, m06.q hR hQ, okq, hql, ?_⟩
  refine wq_mono _ _ (fun _ s' z => wq_mono _ _ (fun an' _ e => ?_) (fun e z H' cls d s ex => ec e z H' cls d ex) z) (fun e z H' cls d s ex => ec e z H' cls d ex) (own_wq aq hql ok0 (fun t ht => (th0.mem hK.good).mpr (okp t ht).2) (by omega))
  subst e
  intro H7 y7 s7 hy7
  have c7 := c6.same s7
  have m67 := Mv.same (rp := rp) s7
  refine ⟨_, rfl, adat an', hy7.isa.dp, (m67.ax hya6).isa.dp, adat_plain an', adp, _, rfl, iteF ?_⟩
  obtain ⟨dx7, hkp7⟩ := c7.kk.ins
  refine ⟨_, rfl, kp, dx7, _, rfl, hkp7, rfl, kp, kd, k, rfl, ⟨⟨dx7, _, hkp7, rfl⟩, c7.kk.dict⟩, c7.kk.good, klt, fun H8 p8 xs8 ts8 s8 hp8 hx8 ht8 th8 => ?_⟩
  obtain rfl := Things.same th8 th0
  have c8 := c7.same s8
  have m68 := m67.trans (Mv.same (rp := rp) s8)
  refine ⟨_, rfl, .list (NestedKey.datas ts8), .lst (SqL.of hx8) (IsTs.dp ht8), .lst (SqL.of (m68.l _ _ lrp hl6)) (IsTs.dp (ht06.ext m68.t)), by simp only [PyData.plain]; exact datas_plain ts8, depth3 ok0, _, rfl, iteF ?_⟩
  have m08 := m06.trans m68
  have hpl8 := m68.l _ _ prp hpl6
  have hpx8 := hpx6.ext m68.t
  have hya8 := m68.ax hya6
  have hy8 := m68.ax hy6
  have ht8' := m68.t _ _ ht6
  have hpp8 := m68.l _ _ pprp hpp6
  have hB8 : ∃ xs, H8 bl = some (.lst xs) ∧ IsTs H8 xs bts := by
    obtain ⟨xs, e, hx⟩ := hB.at_
    exact ⟨xs, m08.l _ _ hbr e, hx.ext m08.t⟩
  have ok3 : ∀ t ∈ pts, Ok 3 t := fun t ht => (okp t ht).1
  have plim : ∀ {n : Nat}, n ≤ 2000000 → n ≤ sizeLine := fun h => Nat.le_of_lt (lim_line (Nat.lt_of_le_of_lt h (by decide)))
  clear m68 m67 hkp7 hx8 hp8 ht8 th8 hy7 c7 s7 s8 c6 hpl6 hpx6 hya6 hy6 ht6 hpp6 hl6 ht06 hl2 ht2
  -- other things
  refine ⟨_, rfl, _, rfl, rp, pl, pxs, pts, rfl, c8.row, prp, hpl8, hpx8, ok3, Nat.lt_of_le_of_lt plen (by decide), fun H9 ml mxs us t9 hm0 hml hus hok hlen => ?_⟩
  have m89 := Mv.tk c8.row t9
  have c9 := c8.tk t9
  have usok : ∀ t ∈ us, Ok 3 t := fun t ht => ((hok t ht).1.1).mono (by decide)
  have pxl := hpx8.length
  have mxl := hus.length
  have hpl9 := m89.l _ _ prp hpl8
  have hpx9 := hpx8.ext m89.t
  obtain ⟨bxs, hbl8, hbx8⟩ := hB8
  have bxl := hbx8.length
  have blen := hB.len
  have mrp : ml ≠ rp := c8.row.ne hm0
  have hbl9 := m89.l _ _ hbr hbl8
  have hbx9 := hbx8.ext m89.t
  refine ⟨_, rfl, pl, pxs, rfl, SqL.of hpl9, fun r1 hr1 => ?_⟩
  have S1 := same_put (o := .lst pxs.reverse) (Same.refl H9) hr1
  have G1 : GL rp pts (upd H9 r1 (.lst pxs.reverse)) r1 := ⟨_, pts.reverse, upd_same, (rev_isTs hpx9).ext (Same.tups S1), fun t ht => ok3 t (List.mem_reverse.mp ht), fun t ht => List.mem_reverse.mpr ht, by rw [List.length_reverse]; omega, c9.row.ne hr1⟩
  have c10 := c9.same S1
  generalize upd H9 r1 (.lst pxs.reverse) = H10 at S1 G1 c10 ⊢
  refine ⟨_, rfl, _, rfl, pl, pl, pxs, pxs, rfl, rfl, S1 _ _ hpl9, S1 _ _ hpl9, plim (by omega), fun r2 hr2 => ?_⟩
  have S2 := same_put (o := .lst (pxs ++ pxs)) (Same.refl H10) hr2
  have G2 := GL.cat (rp := rp) (pts := pts) (hpx9.same S1) (hpx9.same S1) ok3 ok3 (.inl fun t ht => ht) (by omega) (by omega) hr2 c10.row
  have c11 := c10.same S2
  have S12 := S1.trans S2
  generalize upd H10 r2 (.lst (pxs ++ pxs)) = H11 at S2 S12 G2 c11 ⊢
  refine ⟨_, rfl, _, rfl, ml, pl, mxs, pxs, rfl, rfl, S12 _ _ hml, S12 _ _ hpl9, plim (by omega), fun r3 hr3 => ?_⟩
  have S3 := same_put (o := .lst (mxs ++ pxs)) (Same.refl H11) hr3
  have G3 := GL.cat (rp := rp) (pts := pts) (hus.same S12) (hpx9.same S12) usok ok3 (.inr fun t ht => ht) (by omega) (by omega) hr3 c11.row
  have c12 := c11.same S3
  have S13 := S12.trans S3
  generalize upd H11 r3 (.lst (mxs ++ pxs)) = H12 at S3 S13 G3 c12 ⊢
  refine ⟨_, rfl, _, rfl, pl, ml, pxs, mxs, rfl, rfl, S13 _ _ hpl9, S13 _ _ hml, plim (by omega), fun r4 hr4 => ?_⟩
  have S4 := same_put (o := .lst (pxs ++ mxs)) (Same.refl H12) hr4
  have G4 := GL.cat (rp := rp) (pts := pts) (hpx9.same S13) (hus.same S13) ok3 usok (.inl fun t ht => ht) (by omega) (by omega) hr4 c12.row
  have c13 := c12.same S4
  have S14 := S13.trans S4
  generalize upd H12 r4 (.lst (pxs ++ mxs)) = H13 at S4 S14 G4 c13 ⊢
  refine ⟨_, rfl, _, rfl, bl, pl, bxs, pxs, rfl, rfl, S14 _ _ hbl9, S14 _ _ hpl9, plim (by omega), fun r5 hr5 => ?_⟩
  have S5 := same_put (o := .lst (bxs ++ pxs)) (Same.refl H13) hr5
  have G5 := GL.cat (rp := rp) (pts := pts) (hbx9.same S14) (hpx9.same S14) hB.ok ok3 (.inr fun t ht => ht) (by omega) (by omega) hr5 c13.row
  have c14 := c13.same S5
  have S15 := S14.trans S5
  generalize upd H13 r5 (.lst (bxs ++ pxs)) = H14 at S5 S15 G5 c14 ⊢
  refine ⟨_, rfl, _, rfl, pl, bl, pxs, bxs, rfl, rfl, S15 _ _ hpl9, S15 _ _ hbl9, plim (by omega), fun r6 hr6 => ?_⟩
  have S6 := same_put (o := .lst (pxs ++ bxs)) (Same.refl H14) hr6
  have G6 := GL.cat (rp := rp) (pts := pts) (hpx9.same S15) (hbx9.same S15) ok3 hB.ok (.inl fun t ht => ht) (by omega) (by omega) hr6 c14.row
  have c15 := c14.same S6
  have S16 := S15.trans S6
  generalize upd H14 r6 (.lst (pxs ++ bxs)) = H15 at S6 S16 G6 c15 ⊢
  refine ⟨by show 6 ≤ sizeLine; decide, fun ol hol => ?_⟩
  have S7 := same_put (o := .lst [.ref r1, .ref r2, .ref r3, .ref r4, .ref r5, .ref r6]) (Same.refl H15) hol
  have c16 := c15.same S7
  have S17 := S16.trans S7
  have orp : ol ≠ rp := c15.row.ne hol
  have hol16 : upd H15 ol (.lst [.ref r1, .ref r2, .ref r3, .ref r4, .ref r5, .ref r6]) ol = some (.lst [.ref r1, .ref r2, .ref r3, .ref r4, .ref r5, .ref r6]) := upd_same
  generalize upd H15 ol (.lst [.ref r1, .ref r2, .ref r3, .ref r4, .ref r5, .ref r6]) = H16 at S7 S17 c16 hol16 ⊢
  have m816 := m89.trans (Mv.same (rp := rp) S17)
  have pick : ∀ j < 6, ∃ r, ([.ref r1, .ref r2, .ref r3, .ref r4, .ref r5, .ref r6] : List V)[j]? = some (.ref r) ∧ GL rp pts H16 r := by
    intro j hj
    have c : j = 0 ∨ j = 1 ∨ j = 2 ∨ j = 3 ∨ j = 4 ∨ j = 5 := by omega
    rcases c with rfl | rfl | rfl | rfl | rfl | rfl
    · exact ⟨r1, rfl, G1.mv (Mv.same (S2.trans (S3.trans (S4.trans (S5.trans (S6.trans S7))))))⟩
    · exact ⟨r2, rfl, G2.mv (Mv.same (S3.trans (S4.trans (S5.trans (S6.trans S7)))))⟩
    · exact ⟨r3, rfl, G3.mv (Mv.same (S4.trans (S5.trans (S6.trans S7))))⟩
    · exact ⟨r4, rfl, G4.mv (Mv.same (S5.trans (S6.trans S7)))⟩
    · exact ⟨r5, rfl, G5.mv (Mv.same (S6.trans S7))⟩
    · exact ⟨r6, rfl, G6.mv (Mv.same S7)⟩
  clear G1 G2 G3 G4 G5 G6 c9 c10 c11 c12 c13 c14 c15 S1 S2 S3 S4 S5 S6 S7 S12 S13 S14 S15 S16 S17 hbl9 hbx9 hpl9 hpx9
  -- the two papers
  refine ⟨_, rfl, _, rfl, _, rfl, rp, 6, rfl, by decide, by decide, c16.row, fun H17 j t17 j0 j6 => ?_⟩
  obtain ⟨j, rfl⟩ := Int.eq_ofNat_of_zero_le j0
  have m1617 := Mv.tk c16.row t17
  have c17 := c16.tk t17
  obtain ⟨r, hr, G⟩ := pick j (by omega)
  have G17 := G.mv m1617
  refine ⟨ol, _, _, .ref r, rfl, rfl, SqL.of (m1617.l _ _ orp hol16), atI_nat hr, by show 2 ≤ sizeLine; decide, fun sl hsl => ?_⟩
  have S18 := same_put (o := .lst [.ref pl, .ref r]) (Same.refl H17) hsl
  have c18 := c17.same S18
  have m818 := m816.trans (m1617.trans (Mv.same (rp := rp) S18))
  have srp : sl ≠ rp := c17.row.ne hsl
  have hsl18 : upd H17 sl (.lst [.ref pl, .ref r]) sl = some (.lst [.ref pl, .ref r]) := upd_same
  have G18 := G17.mv (Mv.same S18)
  generalize upd H17 sl (.lst [.ref pl, .ref r]) = H18 at S18 c18 m818 hsl18 G18 ⊢
  have P18 : GL rp pts H18 pl := ⟨pxs, pts, m818.l _ _ prp hpl8, hpx8.ext m818.t, ok3, fun t ht => ht, by omega, prp⟩
  clear G17 G c17 m1617 m816 m89 pick hol16
  have check : ∀ {H' : Hp} {z : Addr} {Q' : VK}, Co K H H' kp kd rp k → Mv rp H8 H' → GL rp pts H' z → (∀ H2 y2, Co K H H2 kp kd rp k → Mv rp H' H2 → IsA H2 y2 an' → Q' y2 H2) → spChecked K [.int root, x, .ref z] H' Q' E := fun {H' z Q'} c m g cont => by
    obtain ⟨xs, zs, e, hx, ok, sub, lz, zrp⟩ := g
    refine ⟨root, x, z, xs, zs, q, rfl, e, hx, (m08.trans m).q hR hQ, okq, hql, ?_⟩
    refine wq_mono _ _ (fun _ s' zz => wq_mono _ _ (fun an2 _ e => ?_) (fun e zz H' cls d s ex => ec e zz H' cls d ex) zz) (fun e zz H' cls d s ex => ec e zz H' cls d ex) (own_wq aq hql ok sub lz)
    subst e
    exact fun H2 y2 s2 h2 => cont H2 y2 (c.same s2) (Mv.same s2) h2.isa
  refine ⟨sl, rfl, ⟨_, SqL.of hsl18⟩, for_list (xs := [.ref pl, .ref r]) (fun i σ H' => ∃ v11 v12 v13, σ = [some (.ref kp), some (.int root), some x, some (.ref rp), some (.ref bl), some (.ref l), some (.ref t), some ya, some (.ref pl), some (.ref ml), some (.ref ol), v11, v12, v13] ∧ Co K H H' kp kd rp k ∧ Mv rp H18 H') ?_ ?_ ?_ ?_⟩
  · exact ⟨_, _, _, rfl, c18, Mv.refl rp H18⟩
  · rintro i σ H' hi ⟨v11, v12, v13, rfl, c, m⟩
    exact SqL.of (m.l _ _ srp hsl18)
  · rintro i z σ H' hz ⟨v11, v12, v13, rfl, c, m⟩
    have hg : ∃ a, z = .ref a ∧ GL rp pts H18 a := by
      match i, hz with
      | 0, hz => exact ⟨pl, (Option.some.inj hz).symm, P18⟩
      | 1, hz => exact ⟨r, (Option.some.inj hz).symm, G18⟩
      | i + 2, hz => simp at hz
    obtain ⟨a, rfl, g⟩ := hg
    obtain ⟨xs, zs, e, hx, ok, sub, lz, arp⟩ := g.mv m
    refine ⟨_, rfl, a, xs, rfl, .inl (SqL.of e), fun hd hhd => ?_⟩
    have S20 := same_put (o := .lst xs) (Same.refl H') hhd
    have c20 := c.same S20
    have m20 := m.trans (Mv.same (rp := rp) S20)
    have hdrp : hd ≠ rp := c.row.ne hhd
    have G20 : GL rp pts (upd H' hd (.lst xs)) hd := ⟨xs, zs, upd_same, hx.ext (Same.tups S20), ok, sub, lz, hdrp⟩
    have e20 : (upd H' hd (.lst xs)) a = some (.lst xs) := S20 _ _ e
    have eh : (upd H' hd (.lst xs)) hd = some (.lst xs) := upd_same
    generalize upd H' hd (.lst xs) = H20 at S20 c20 m20 G20 e20 eh ⊢
    refine ⟨_, rfl, _, rfl, _, rfl, check c20 (m818.trans m20) G20 fun H21 y21 c21 m21 hy21 => ?_⟩
    refine ⟨_, rfl, adat an', hy21.dp, ((m818.trans (m20.trans m21)).ax hya8).isa.dp, adat_plain an', adp, _, rfl, iteF ?_⟩
    have hx21 : IsTs H21 xs zs := hx.ext (Tups.trans (Same.tups S20) m21.t)
    refine ⟨_, rfl, _, rfl, .list (NestedKey.datas zs), .lst (SqL.of (m21.l _ _ hdrp eh)) (IsTs.dp hx21), .lst (SqL.of (m21.l _ _ arp e20)) (IsTs.dp hx21), by simp only [PyData.plain]; exact datas_plain zs, depth3 ok, _, rfl, iteF ⟨_, _, _, rfl, c21, m20.trans m21⟩⟩
  · rintro σ H' ⟨v11, v12, v13, rfl, c, m⟩
    have hplX := (m818.trans m).l _ _ prp hpl8
    have hpxX := hpx8.ext (m818.trans m).t
    refine ⟨_, rfl, _, rfl, _, _, rfl, .inl (SqL.of hplX), _, _, rfl, rfl, rp, _, rfl, by omega, ?_, c.row, fun H20 a t20 a0 a1 => ?_⟩
    · exact Nat.lt_of_le_of_lt (show ((pxs.length : Int) + 1).natAbs ≤ 400001 by omega) (by decide)
    obtain ⟨a, rfl⟩ := Int.eq_ofNat_of_zero_le a0
    have c20 := c.tk t20
    have m20 := m.trans (Mv.tk c.row t20)
    refine gName_go ?_
    dsimp only
    refine cutSeq (fun H1 => Co K H H1 kp kd rp k ∧ Mv rp H18 H1) (fun H21 h => ?_) (fun rest => ?_)
    · obtain ⟨c21, m21⟩ := h
      refine ⟨_, rfl, _, rfl, _, rfl, check c21 (m818.trans m21) (P18.mv m21) fun H22 y22 c22 m22 hy22 => ?_⟩
      have mm := m818.trans (m21.trans m22)
      refine ⟨_, rfl, adat an', hy22.dp, (mm.ax hya8).isa.dp, adat_plain an', adp, _, rfl, iteT ⟨_, rfl, _, rfl, _, rfl, by show 2 ≤ sizeLine; decide, fun u hu => ?_⟩⟩
      have S := same_put (o := .tup [ya, .ref pl]) (Same.refl H22) hu
      have mm2 := mm.trans (Mv.same (rp := rp) S)
      have c23 := c22.same S
      have dl := depth3 ok3
      refine ⟨.tuple [adat an', .list (NestedKey.datas pts)], .tup (SqT.of (mm2.t _ _ ht8')) (.cons (mm2.ax hy8).isa.dp (.cons (.lst (SqL.of (mm2.l _ _ pprp hpp8)) (IsTs.dp ?_)) .nil)), .tup (SqT.of upd_same) (.cons (mm2.ax hya8).isa.dp (.cons (.lst (SqL.of (mm2.l _ _ prp hpl8)) (IsTs.dp (hpx8.ext mm2.t))) .nil)), ?_, ?_, fin _ c23.st c23.kk⟩
      · exact hpx8.ext mm2.t
      · simp only [PyData.plain, PyData.plainAll, adat_plain, datas_plain, Bool.and_self]
      · have ad5 := adat_depth ad
        have dp5 : NestedKey.depthAll pts ≤ 3 := OkAll.depth (OkAll_iff.mpr ok3)
        have e5 := datas_depth pts
        simp only [PyData.depth, PyData.depthAll]
        omega
    · have hplY := (m818.trans m20).l _ _ prp hpl8
      have hpxY := hpx8.ext (m818.trans m20).t
      refine ⟨_, rfl, _, rfl, _, _, rfl, .inl (SqL.of hplY), _, _, rfl, rfl, _, rfl, ite2 (fun c1 => ?_) (fun c1 => iteF (rest _ ⟨c20, m20⟩))⟩
      have c1' : ((a : Nat) : Int) < (pxs.length : Int) := of_decide_eq_true c1
      have ha : a < pts.length := by omega
      refine ⟨_, rfl, _, rfl, _, rfl, _, rfl, _, rfl, pl, pxs, rfl, SqL.of hplY, fun u1 hu1 => ?_⟩
      rw [cut_take (by omega)]
      have S1 := same_put (o := .lst (pxs.take a)) (Same.refl H20) hu1
      have e1 : (upd H20 u1 (.lst (pxs.take a))) u1 = some (.lst (pxs.take a)) := upd_same
      generalize upd H20 u1 (.lst (pxs.take a)) = H21 at S1 e1 ⊢
      refine ⟨_, rfl, _, rfl, _, _, rfl, rfl, _, rfl, pl, pxs, rfl, SqL.of (S1 _ _ hplY), fun u2 hu2 => ?_⟩
      have e0 : ((a : Nat) : Int) + 1 = (((a + 1 : Nat)) : Int) := by omega
      rw [e0, cut_drop (by omega)]
      have S2 := same_put (o := .lst (pxs.drop (a + 1))) (Same.refl H21) hu2
      have e2 : (upd H21 u2 (.lst (pxs.drop (a + 1)))) u2 = some (.lst (pxs.drop (a + 1))) := upd_same
      generalize upd H21 u2 (.lst (pxs.drop (a + 1))) = H22 at S2 e2 ⊢
      refine ⟨u1, u2, _, _, rfl, rfl, S2 _ _ e1, e2, plim (by rw [List.length_take, List.length_drop]; omega), fun u3 hu3 => ?_⟩
      have S3 := same_put (o := .lst (pxs.take a ++ pxs.drop (a + 1))) (Same.refl H22) hu3
      have S13 := S1.trans (S2.trans S3)
      have eq : pts = pts.take a ++ pts[a] :: pts.drop (a + 1) := by
        rw [← drop_at (List.getElem?_eq_getElem ha), List.take_append_drop]
      have aq' : Asked k root q an' (pts.take a ++ pts[a] :: pts.drop (a + 1)) := by rw [← eq]; exact aq
      refine ⟨root, x, u3, _, pts.take a ++ pts.drop (a + 1), q, rfl, upd_same, ((hpxY.same S13).take a).append ((hpxY.same S13).drop (a + 1)), ?_, okq, hql, lacks_wq aq' hql, fun H23 s23 => ⟨_, rfl, iteF (rest _ ⟨c20.same (S13.trans s23), m20.trans (Mv.same (S13.trans s23))⟩)⟩⟩
      exact (m08.trans (m818.trans (m20.trans (Mv.same (rp := rp) S13)))).q hR hQ
end Wk
set_option Elab.async false
set_option linter.all false
set_option maxRecDepth 100000
set_option maxHeartbeats 4000000
/-! The law: held. -/
namespace Wk
open PySem PySem.Spec PyProof.Rows L2 Pv Ph
open Dk (atE_mem)
variable {P : Program} {w : World} {K : PySem.W.Frag} {mg : Str → Option Value} {base : Heap}
theorem sqL_same {H H' : Hp} {a : Addr} {xs : List V} (h : SqL K H a xs) (s : Same H H') : SqL K H' a xs := by
  rcases h with (h | ⟨o, h⟩) | h
  · exact .inl (.inl (s _ _ h))
  · exact .inl (.inr ⟨o, s _ _ h⟩)
  · exact .inr h
theorem Mv.two {d rp : Addr} {H H' : Hp} (hd : ∃ kvs, H d = some (.dK kvs)) (hR : RowS H rp) (st : Step [d, rp] H H') : Mv rp H H' := by
  obtain ⟨kvs, e⟩ := hd
  obtain ⟨u, v, e2, _⟩ := hR
  have go : ∀ b o, H b = some o → (∀ kvs, o ≠ .dK kvs) → b ≠ rp → H' b = some o := fun b o h n1 n2 => st b o h fun z => by
    simp only [List.mem_cons, List.not_mem_nil, or_false] at z
    rcases z with z | z
    · rw [z, e] at h
      exact n1 kvs (Option.some.inj h).symm
    · exact n2 z
  refine ⟨fun b xs h => go b _ h (fun _ z => nomatch z) fun z => ?_, fun b xs n h => go b _ h (fun _ z => nomatch z) n, fun b C dx fs h => go b _ h (fun _ z => nomatch z) fun z => ?_⟩
  · rw [z, e2] at h; cases h
  · rw [z, e2] at h; cases h
theorem PoolV.mv {rp : Addr} {H H' : Hp} {l : Addr} {ps : List Th} (h : PoolV H l ps) (ne : l ≠ rp) (m : Mv rp H H') : PoolV H' l ps := by
  obtain ⟨xs, e, hx⟩ := h.at_
  exact ⟨⟨xs, m.l _ _ ne e, hx.ext m.t⟩, h.ok, h.len⟩
theorem Bes.mv {rp : Addr} {H H' : Hp} {k : Store} {l : Addr} {ps : List Th} (h : Bes H k l ps) (ne : l ≠ rp) (m : Mv rp H H') : Bes H' k l ps := by
  obtain ⟨xs, e, hx⟩ := h.at_
  exact ⟨⟨xs, m.l _ _ ne e, hx.ext m.t⟩, h.ok, h.len⟩
theorem Bes.same {H H' : Hp} {k : Store} {l : Addr} {ps : List Th} (h : Bes H k l ps) (s : Same H H') : Bes H' k l ps := by
  obtain ⟨xs, e, hx⟩ := h.at_
  exact ⟨⟨xs, s _ _ e, hx.ext (Same.tups s)⟩, h.ok, h.len⟩
theorem cut_ints (ns : List Int) (n : Nat) : cutV (ns.map V.int) none (some (n : Int)) = (ns.take n).map V.int := by
  unfold cutV
  rw [HT.sIx_none, HT.sIx_nat, List.drop_zero, Nat.sub_zero, List.length_map, ← List.map_take]
  congr 1
  by_cases h : n ≤ ns.length
  · rw [Nat.min_eq_left h]
  · rw [Nat.min_eq_right (by omega), List.take_of_length_le (Nat.le_refl _), List.take_of_length_le (by omega)]
theorem ints_of {ns : List Int} : ∀ {ys : List V}, (∀ y ∈ ys, y ∈ ns.map V.int) → ∃ ms : List Int, ys = ms.map V.int
  | [], _ => ⟨[], rfl⟩
  | y :: ys, h => by
    obtain ⟨m, _, e⟩ := List.mem_map.mp (h y List.mem_cons_self)
    obtain ⟨ms, e2⟩ := ints_of (ns := ns) (ys := ys) fun z hz => h z (List.mem_cons_of_mem _ hz)
    exact ⟨m :: ms, by rw [List.map_cons, e, e2]⟩
def spHeld (K : PySem.W.Frag) : Sp := fun vs H Q E => ∃ (a : Addr) (ns : List Int), vs = [.ref a] ∧ SqL K H a (ns.map V.int) ∧ EC K E ∧ ∀ H', Q (.bl true) H'
theorem fo__law_held (T : Tx K mg) : Fo P w K mg base (L2.CX P w) 18 (ad K "_law_held") (spHeld K) := by
  have S : FnScope ["script", "keeper", "cells", "pool", "root", "cell", "beside", "row", "ask"] ["script"] (defScope (top 102)) := ⟨rfl, rfl, rfl, by decide +kernel, rfl, by decide +kernel, by decide +kernel⟩
  have F_Keeper : Fo P w K mg base CX0 1 (am K "Vault" "__init__") (spVinit K) := fo_Vinit T
  have F__law_row : Fo P w K mg base CX0 1 (ad K "_law_row") spRow := fo__law_row T
  have F__law_some : Fo P w K mg base CX0 7 (ad K "_law_some") spSome := fo__law_some T
  have F__law_grown : Fo P w K mg base (L2.CX P w) 13 (ad K "_law_grown") (spGrown K w) := fo__law_grown T
  have F__law_ask : Fo P w K mg base CX0 9 (ad K "_law_ask") (spAsk K) := fo__law_ask T
  have F__law_right : Fo P w K mg base (L2.CX P w) 17 (ad K "_law_right") (spRight K) := fo__law_right T
  have F_answer_with_paper : Fo P w K mg base (L2.CX P w) 15 (ad K "answer_with_paper") (spAwp K) := fo_answer_with_paper T
  refine T.d__law_held.ok S (fun _ _ _ _ _ _ us hl => match us, hl with | [_], _ => rfl) (fun vs H Q E h => by obtain ⟨a, ns, rfl, _⟩ := h; rfl) (fun cdv A outer s H vs Q E hr__law_right h => ?_)
  have hr_answer_with_paper := hr__law_right.mono (show 15 ≤ 17 by decide)
  have hr__law_grown := hr__law_right.mono (show 13 ≤ 17 by decide)
  have hr__law_ask := hr__law_right.mono (show 9 ≤ 17 by decide)
  have hr8 := hr__law_right.mono (show 8 ≤ 17 by decide)
  have hr__law_some := hr__law_right.mono (show 7 ≤ 17 by decide)
  have hr_Keeper := hr__law_right.mono (show 2 ≤ 17 by decide)
  have hr__law_row := hr__law_right.mono (show 1 ≤ 17 by decide)
  refine ⟨_, (pss_cons (ps_set (i := 1) S.nd rfl (Or.inl rfl) (pe_mk0 T.k_Keeper.mk_ F_Keeper hr_Keeper rfl T.b_Keeper.g pass0)) (pss_cons (ps_set (i := 2) S.nd rfl (Or.inl rfl) (pe_slice sl_list (pv 0) po_none (po_some pe_int))) (pss_cons (ps_set (i := 3) S.nd rfl (Or.inl rfl) (pe_lst pa_nil)) (pss_cons (ps_set (i := 4) S.nd rfl (Or.inl rfl) (pe_fn F__law_grown hr__law_grown rfl T.b__law_grown.g passX (pa_cons (pv 1) (pa_cons (pe_slice sl_list (pv 2) po_none (po_some (pe_op op_fdivW (pe_callB call_len_seq (by rfl) T.n_len PySem.boot_len (pa_cons (pv 2) pa_nil)) pe_int))) (pa_cons (pv 3) (pa_cons (Dk.pe_pnew) pa_nil)))))) (pss_cons (ps_for ownX rfl (pi_list (pe_slice sl_list (pv 2) po_none (po_some pe_int))) (pg_name (i := 5) S.nd rfl (Or.inl rfl)) (pss_one (ps_expr (pe_vlay T hr8 passX (pv 1) (pa_cons (pe_fn F__law_some hr__law_some rfl T.b__law_some.g pass0 (pa_cons (pe_fn F__law_row hr__law_row rfl T.b__law_row.g pass0 (pa_cons (pe_op op_add (pv 5) pe_int) pa_nil)) pa_nil)) pa_nil))))) (pss_cons (ps_set (i := 6) S.nd rfl (Or.inl rfl) (pe_lst pa_nil)) (pss_cons (ps_for ownX rfl (pi_list (pe_op op_cat (pe_lst (pa_cons pe_int (pa_cons pe_int (pa_cons pe_int pa_nil)))) (Ls.pe_slice3 (pv 2) (po_some (pe_op op_fdivW (pe_callB call_len_seq (by rfl) T.n_len PySem.boot_len (pa_cons (pv 2) pa_nil)) pe_int)) po_none (po_some pe_int)))) (pg_name (i := 5) S.nd rfl (Or.inl rfl)) (pss_cons (ps_set (i := 7) S.nd rfl (Or.inl rfl) (pe_fn F__law_row hr__law_row rfl T.b__law_row.g pass0 (pa_cons (pv 5) pa_nil))) (pss_cons (ps_set (i := 8) S.nd rfl (Or.inl rfl) (pe_fn F__law_ask hr__law_ask rfl T.b__law_ask.g pass0 (pa_cons (pv 7) (pa_cons (pv 3) pa_nil)))) (pss_cons (ps_if (pt_not (pt_val (pe_fn F__law_right hr__law_right rfl T.b__law_right.g passX (pa_cons (pv 1) (pa_cons (pv 4) (pa_cons (pv 8) (pa_cons (pv 7) (pa_cons (pv 6) pa_nil)))))))) (pss_one (ps_ret pe_bl)) pss_nil) (pss_one (ps_set (i := 6) S.nd rfl (Or.inl rfl) (pe_callTy call_list_of (by rfl) T.n_list (by decide +kernel) (pa_cons (pe_ix ix_tup (pe_fn F_answer_with_paper hr_answer_with_paper rfl T.b_answer_with_paper.g passX (pa_cons (pv 1) (pa_cons (pv 4) (pa_cons (pv 8) pa_nil)))) pe_int (fun _ _ => rfl)) pa_nil)))))))) (pss_one (ps_ret pe_bl))))))))), ?_⟩
  obtain ⟨sa, ns, rfl, hsa, ec, fin⟩ := h
  refine fun a dx ha hdx ne => ⟨a, _, dx, rfl, .inl rfl, upd_same, fun d hd => ⟨rfl, ?_⟩⟩
  have had : a ≠ d := fun z => by rw [← z, upd_same] at hd; cases hd
  have hd1 : (upd H dx (.own a)) d = none := by rw [upd_ne (Ne.symm had)] at hd; exact hd
  have hdd : d ≠ dx := fun z => by rw [z, upd_same] at hd1; cases hd1
  have hd0 : H d = none := by rw [upd_ne hdd] at hd1; exact hd1
  have s1 : Same H (upd (upd (upd (upd H dx (.own a)) a (.ins (ad K "Keeper") dx [])) d (.dK [])) a (.ins (ad K "Keeper") dx [("by_seal", .ref d)])) := fun b o e => by
    rw [upd_ne (ne_of_none e ha), upd_ne (ne_of_none e hd0), upd_ne (ne_of_none e ha), upd_ne (ne_of_none e hdx)]
    exact e
  have K1 : KeepAt K (upd (upd (upd (upd H dx (.own a)) a (.ins (ad K "Keeper") dx [])) d (.dK [])) a (.ins (ad K "Keeper") dx [("by_seal", .ref d)])) a d [] := by
    refine ⟨⟨dx, upd_same⟩, ⟨[], ?_, .nil⟩, .nil⟩
    rw [upd_ne (Ne.symm had)]
    exact upd_same
  generalize upd (upd (upd (upd H dx (.own a)) a (.ins (ad K "Keeper") dx [])) d (.dK [])) a (.ins (ad K "Keeper") dx [("by_seal", .ref d)]) = H1 at s1 K1 ⊢
  refine ⟨_, rfl, _, rfl, sa, _, rfl, sqL_same hsa s1, fun cl hcl => ?_⟩
  rw [show (63 : Int) = ((63 : Nat) : Int) from rfl, cut_ints]
  have hcs : (ns.take 63).length ≤ 63 := by rw [List.length_take]; omega
  generalize ns.take 63 = cs at hcs ⊢
  have s2 := same_put (o := .lst (cs.map V.int)) (Same.refl H1) hcl
  have hc2 : upd H1 cl (.lst (cs.map V.int)) cl = some (.lst (cs.map V.int)) := upd_same
  have K2 := K1.same s2
  generalize upd H1 cl (.lst (cs.map V.int)) = H2 at s2 hc2 K2 ⊢
  refine ⟨by show 0 ≤ sizeLine; decide, fun pl hpl => ?_⟩
  have s3 := same_put (o := .lst []) (Same.refl H2) hpl
  have hp3 : upd H2 pl (.lst []) pl = some (.lst []) := upd_same
  have K3 := K2.same s3
  have hc3 := s3 _ _ hc2
  have cp : cl ≠ pl := fun z => by rw [← z, hc2] at hpl; cases hpl
  generalize upd H2 pl (.lst []) = H3 at s3 hp3 K3 hc3 ⊢
  -- the tree
  have e3 : (((cs.map V.int).length : Nat) : Int) / 3 = ((cs.length / 3 : Nat) : Int) := by rw [List.length_map]; omega
  have w3 : CDivW (((cs.map V.int).length : Nat) : Int) 3 := wide_div (b := 60) (by decide) (by decide) (by decide) (by decide)
  refine ⟨_, rfl, _, rfl, _, rfl, _, _, rfl, .inl (SqL.of hc3), _, _, rfl, rfl, w3, _, rfl, cl, _, rfl, SqL.of hc3, fun tl htl => ?_⟩
  rw [e3, cut_ints]
  have s4 := same_put (o := .lst ((cs.take (cs.length / 3)).map V.int)) (Same.refl H3) htl
  have ht4 : upd H3 tl (.lst ((cs.take (cs.length / 3)).map V.int)) tl = some (.lst ((cs.take (cs.length / 3)).map V.int)) := upd_same
  have tp : tl ≠ pl := fun z => by rw [z, hp3] at htl; cases htl
  have K4 := K3.same s4
  have hp4 := s4 _ _ hp3
  have hc4 := s4 _ _ hc3
  generalize upd H3 tl (.lst ((cs.take (cs.length / 3)).map V.int)) = H4 at s4 ht4 K4 hp4 hc4 ⊢
  refine ⟨_, rfl, fun dp hdp => ?_⟩
  have s5 := same_put (o := Dk.plainO w dp []) (Same.refl H4) hdp
  have pd5 : Dk.PlainAt w (upd H4 dp (Dk.plainO w dp [])) dp [] := ⟨upd_same, fun x hx => (by cases hx), fun x hx => (by cases hx), Nat.zero_le _⟩
  have K5 := K4.same s5
  have hp5 := s5 _ _ hp4
  have hc5 := s5 _ _ hc4
  have ht5 := s5 _ _ ht4
  have cd : cl ≠ dp := ne_of_none hc4 hdp
  refine ⟨a, d, tl, cs.take (cs.length / 3), pl, dp, rfl, K5, ht5, by rw [List.length_take]; omega, hp5, pd5, tp, ec, fun H6 root k ps st6 K6 tr6 po6 pn6 => ?_⟩
  have hc6 : H6 cl = some (.lst (cs.map V.int)) := st6 _ _ hc5 (by
    simp only [List.mem_cons, List.not_mem_nil, or_false]
    rintro (z | z | z)
    · obtain ⟨kvs, e, _⟩ := K5.dict
      rw [← z, hc5] at e
      cases e
    · exact cp z
    · exact cd z)
  clear s5 pd5 K5 hp5 hc5 ht5 cd s4 ht4 K4 hp4 hc4 tp s3 hp3 K3 hc3 s2 K2 hc2 hdp htl hpl hcl
  -- other things
  refine ⟨_, rfl, _, rfl, cl, _, rfl, SqL.of hc6, fun l3 hl3 => ?_⟩
  rw [show (3 : Int) = ((3 : Nat) : Int) from rfl, cut_ints]
  have s7 := same_put (o := .lst ((cs.take 3).map V.int)) (Same.refl H6) hl3
  have hl7 : upd H6 l3 (.lst ((cs.take 3).map V.int)) l3 = some (.lst ((cs.take 3).map V.int)) := upd_same
  have K7 := K6.same s7
  have po7 := po6.ext (Same.tups s7) (Same.lsts s7)
  have hc7 := s7 _ _ hc6
  generalize upd H6 l3 (.lst ((cs.take 3).map V.int)) = H7 at s7 hl7 K7 po7 hc7 ⊢
  have l33 : (cs.take 3).length ≤ 3 := by rw [List.length_take]; omega
  refine ⟨l3, rfl, ⟨_, SqL.of hl7⟩, for_list (xs := (cs.take 3).map V.int) (fun i σ H' => ∃ v5 k, σ = [some (.ref sa), some (.ref a), some (.ref cl), some (.ref pl), some (.int root), v5, none, none, none] ∧ KeepAt K H' a d k ∧ TreeAt k root (21 + i) ∧ PoolV H' pl ps ∧ H' cl = some (.lst (cs.map V.int)) ∧ H' l3 = some (.lst ((cs.take 3).map V.int))) ?_ ?_ ?_ ?_⟩
  · exact ⟨_, k, rfl, K7, tr6, po7, hc7, hl7⟩
  · rintro i σ H' hi ⟨v5, k, rfl, _, _, _, _, e⟩
    exact SqL.of e
  · rintro i x σ H8 hx ⟨v5, k, rfl, K8, tr8, po8, hc8, hl8⟩
    rw [List.getElem?_map] at hx
    obtain ⟨c, hc, rfl⟩ := Option.map_eq_some_iff.mp hx
    have hi : i < (cs.take 3).length := (List.getElem?_eq_some_iff.mp hc).1
    refine ⟨_, _, _, fun Q' q => ⟨_, rfl, q⟩, K8.vault, _, rfl, _, _, rfl, rfl, c + 1, rfl, fun H9 rp s9 hrp hR9 => ⟨rp, rfl, hR9, fun H10 x t t10 hx10 ok10 => ?_⟩⟩
    have m := (Mv.same (rp := rp) s9).trans (Mv.tk hR9 t10)
    have K10 := (K8.same s9).tk hR9 t10
    have n1 : pl ≠ rp := fun z => by
      obtain ⟨xs, e, _⟩ := po8.at_
      rw [z, hrp] at e; cases e
    have n2 : cl ≠ rp := ne_of_none hc8 hrp
    have n3 : l3 ≠ rp := ne_of_none hl8 hrp
    have klen := tr8.len
    refine layS K8.vault m.i hx10 (K10.run (Z := fun _ k' => k'.Good ∧ k'.length ≤ k.length + 1 ∧ LeV (VS.view (.base k)) (VS.view (.base k'))) (kp_wq (b := 1) (Qv := fun _ g' => LeV (VS.view (.base k)) g') K10.good ⟨ok10.1.mono (by decide), fun z => LeV.set z⟩ (fun _ => True.intro) (Nat.le_trans (show _ ≤ 200000 by omega) (by decide))) ec fun n k' H11 y Z st K11 e => ?_)
    subst e
    obtain ⟨_, lk, lev⟩ := Z
    have m11 := m.trans (Mv.step (rp := rp) K10.dk st)
    obtain ⟨z, wf, hz⟩ := tr8.wf
    exact ⟨_, k', rfl, K11, ⟨⟨z, wf.mono lev, by omega⟩, by omega⟩, po8.mv n1 m11, m11.l _ _ n2 hc8, m11.l _ _ n3 hl8⟩
  · rintro σ H8 ⟨v5, k, rfl, K8, tr8, po8, hc8, hl8⟩
    have e21 : 21 + ((cs.take 3).map V.int).length ≤ 24 := by rw [List.length_map]; omega
    have tr : TreeAt k root 24 := by
      obtain ⟨z, wf, hz⟩ := tr8.wf
      exact ⟨⟨z, wf, by omega⟩, Nat.le_trans tr8.len (Nat.mul_le_mul_left _ e21)⟩
    clear tr8 hl8 l33 hl7 K7 po7 hc7 s7 hl3 hc6 K6 tr6 po6
    refine ⟨by show 0 ≤ sizeLine; decide, fun b0 hb0 => ?_⟩
    have s9 := same_put (o := .lst []) (Same.refl H8) hb0
    have B9 : Bes (upd H8 b0 (.lst [])) k b0 [] := ⟨⟨[], upd_same, .nil⟩, fun t ht => (by cases ht), by simp⟩
    have K9 := K8.same s9
    have po9 := po8.ext (Same.tups s9) (Same.lsts s9)
    have hc9 := s9 _ _ hc8
    generalize upd H8 b0 (.lst []) = H9 at s9 B9 K9 po9 hc9 ⊢
    refine ⟨by show 3 ≤ sizeLine; decide, fun q1 hq1 => ?_⟩
    have s10 := same_put (o := .lst [.int 0, .int 3, .int 12]) (Same.refl H9) hq1
    have h10 : upd H9 q1 (.lst [.int 0, .int 3, .int 12]) q1 = some (.lst [.int 0, .int 3, .int 12]) := upd_same
    generalize upd H9 q1 (.lst [.int 0, .int 3, .int 12]) = H10 at s10 h10 ⊢
    have hc10 := s10 _ _ hc9
    refine ⟨_, rfl, _, rfl, _, _, rfl, .inl (SqL.of hc10), _, _, rfl, rfl, w3, _, rfl, _, rfl, cl, _, 3, rfl, SqL.of hc10, rfl, by decide, fun q2 ys hq2 hmem hlen => ?_⟩
    obtain ⟨ms, rfl⟩ := ints_of hmem
    have hms : ms.length ≤ 63 := by
      rw [List.length_map, List.length_map] at hlen
      omega
    have s11 := same_put (o := .lst (ms.map V.int)) (Same.refl H10) hq2
    have h11 : upd H10 q2 (.lst (ms.map V.int)) q2 = some (.lst (ms.map V.int)) := upd_same
    generalize upd H10 q2 (.lst (ms.map V.int)) = H11 at s11 h11 ⊢
    refine ⟨q1, q2, _, _, rfl, rfl, s11 _ _ h10, h11, ?_, fun q3 hq3 => ?_⟩
    · rw [List.length_map]
      exact Nat.le_trans (show 3 + ms.length ≤ 66 by omega) (by decide)
    have e12 : ([.int 0, .int 3, .int 12] : List V) ++ ms.map V.int = ([0, 3, 12] ++ ms).map V.int := rfl
    rw [e12]
    generalize ([0, 3, 12] ++ ms : List Int) = all
    have s12 := same_put (o := .lst (all.map V.int)) (Same.refl H11) hq3
    have h12 : upd H11 q3 (.lst (all.map V.int)) q3 = some (.lst (all.map V.int)) := upd_same
    generalize upd H11 q3 (.lst (all.map V.int)) = H12 at s12 h12 ⊢
    have s912 := s10.trans (s11.trans s12)
    refine ⟨q3, rfl, ⟨_, SqL.of h12⟩, for_list (xs := all.map V.int) (fun i σ H' => ∃ v5 bl bts v7 v8, σ = [some (.ref sa), some (.ref a), some (.ref cl), some (.ref pl), some (.int root), v5, some (.ref bl), v7, v8] ∧ KeepAt K H' a d k ∧ PoolV H' pl ps ∧ Bes H' k bl bts ∧ H' q3 = some (.lst (all.map V.int))) ?_ ?_ ?_ ?_⟩
    · exact ⟨_, b0, [], _, _, rfl, K9.same s912, po9.ext (Same.tups s912) (Same.lsts s912), B9.same s912, h12⟩
    · rintro i σ H' hi ⟨v5, bl, bts, v7, v8, rfl, _, _, _, e⟩
      exact SqL.of e
    · rintro i x σ H13 hx ⟨v5, bl, bts, v7, v8, rfl, K13, po13, B13, h13⟩
      rw [List.getElem?_map] at hx
      obtain ⟨c, hc, rfl⟩ := Option.map_eq_some_iff.mp hx
      refine ⟨_, rfl, c, rfl, fun H14 rp s14 hrp hR14 => ?_⟩
      have n1 : pl ≠ rp := fun z => by
        obtain ⟨xs, e, _⟩ := po13.at_
        rw [z, hrp] at e; cases e
      have n2 : bl ≠ rp := fun z => by
        obtain ⟨xs, e, _⟩ := B13.at_
        rw [z, hrp] at e; cases e
      have n3 : q3 ≠ rp := ne_of_none h13 hrp
      have po14 := po13.ext (Same.tups s14) (Same.lsts s14)
      refine ⟨_, rfl, _, rfl, rp, pl, ps, rfl, hR14, po14, n1, fun H15 x q t15 hQ okq hql => ?_⟩
      have m15 := Mv.tk hR14 t15
      have K15 := (K13.same s14).tk hR14 t15
      have po15 := po14.mv n1 m15
      have B15 := (B13.same s14).mv n2 m15
      have h15 := m15.l _ _ n3 (s14 _ _ h13)
      have klen := tr.len
      refine ⟨_, rfl, _, rfl, _, rfl, _, rfl, _, rfl, a, d, k, root, 24, x, q, rp, bl, bts, rfl, K15, tr, by decide, by omega, hQ, okq, hql, t15.rw_, B15, n2, ec, fun H16 st16 K16 => ⟨_, rfl, iteF ?_⟩⟩
      have m16 := Mv.two (K15.dk d (by simp)) t15.rw_ st16
      have hQ16 := m16.q t15.rw_ hQ
      obtain ⟨dx16, hk16⟩ := K16.ins
      refine ⟨_, rfl, _, rfl, _, rfl, a, dx16, d, k, root, x, q, rfl, hk16, K16.dict, K16.good, hQ16, okq, hql, ?_⟩
      refine wq_mono _ _ (fun an s' h => ?_) (fun e z H' cls d s ex => ec e z H' cls d ex) (awp_wq K16.good tr (by decide) okq hql)
      obtain ⟨o, m, rfl, mlt, m4, runs, gm, sub, ad⟩ := h
      refine ⟨o, m, rfl, mlt, fun H17 t y pp pxs pts s17 ht hy hpp hpp0 hpx thm _ => ?_⟩
      have aq : Asked k root q an pts := ⟨o, m, runs, gm, sub, thm, ad, m4⟩
      obtain ⟨okp, pwp, plen⟩ := aq.sub
      refine ⟨t, _, _, _, rfl, rfl, SqT.of ht, atI_nat (j := 1) rfl, pp, pxs, rfl, .inl (SqL.of hpp), fun b2 hb2 => ?_⟩
      have s18 := same_put (o := .lst pxs) (Same.refl H17) hb2
      have s1618 := s17.trans s18
      exact ⟨_, b2, pts, _, _, rfl, K16.same s1618, (po15.mv n1 m16).ext (Same.tups s1618) (Same.lsts s1618), ⟨⟨pxs, upd_same, hpx.ext (Same.tups s18)⟩, fun t ht => (okp t ht).1, plen⟩, s1618 _ _ (m16.l _ _ n3 h15)⟩
    · rintro σ H' ⟨v5, bl, bts, v7, v8, rfl, _, _, _, e⟩
      exact fin H'
end Wk
set_option Elab.async false
set_option linter.all false
set_option maxRecDepth 100000
set_option maxHeartbeats 4000000
/-! The law. -/
namespace Wk
open PySem PySem.Spec PyProof.Rows L2 Pv Ph
variable {P : Program} {w : World} {K : PySem.W.Frag} {mg : Str → Option Value} {base : Heap}
def spLaw (K : PySem.W.Frag) : Sp := fun vs H Q _ => ∃ (a : Addr) (ns : List Int), vs = [.ref a] ∧ SqL K H a (ns.map V.int) ∧ ∀ H', Q (.bl true) H'
theorem fo_law (T : Tx K mg) {fd : FuncData} (FL : FunD K "law" "law" (defArgs (top 103)) (defBody (top 103)) (defScope (top 103)) [] [] (ad K "law") fd) : FnOk P w K mg base CX0 19 (ad K "law") fd ["script"] (spLaw K) := by
  have S : FnScope ["script", "caught", "right", "e"] ["script"] (defScope (top 103)) := ⟨rfl, rfl, rfl, by decide +kernel, rfl, by decide +kernel, by decide +kernel⟩
  have F__law_held : Fo P w K mg base (L2.CX P w) 18 (ad K "_law_held") (spHeld K) := fo__law_held T
  have F_seal : Fo P w K mg base CX0 6 (ad K "seal") spSeal := fo_seal T
  refine FL.ok S (fun vs H Q E h => by obtain ⟨a, ns, rfl, _⟩ := h; rfl) (fun cdv A outer s H vs Q E hr__law_held h => ?_)
  have hr_seal := hr__law_held.mono (show 6 ≤ 18 by decide)
  have hu6 := hr__law_held.units
  refine ⟨_, PSs.nox ((pss_cons (ps_set (i := 1) S.nd rfl (Or.inl rfl) pe_non) (pss_cons (ps_set (i := 2) S.nd rfl (Or.inl rfl) pe_bl) (pss_cons (Rl.ps_try_keep (i := 3) (ts := fun a cls d => tAsg (tVar 3) (gName 1)) rfl rfl rfl S.nd rfl rfl ⟨rfl, by decide, Or.inl T.b_Clash.g⟩ (fun W pn xe tk _ => pss_one (ps_set (i := 2) S.nd rfl (Or.inl rfl) (by exact (pe_fnS F__law_held hr__law_held rfl T.b__law_held.g (fun σ => passAt tk σ) (by exact (pa_cons (pv 0) pa_nil)))))) (fun a oe cls d pn hz hf => pss_one (ps_set (i := 1) S.nd rfl (Or.inl rfl) (pv 3)))) (pss_cons (ps_if (pt_cmpR op_notN (pv 1) pe_non (nomark _)) (pss_one (ps_ret (pe_and (pe_cmpR (op_neT hu6) (Rl.pe_xc (pv 1)) (Rl.pe_xc (pv 1)) (nomark _)) (pe_one (pe_cmpR op_eq (pe_fn F_seal hr_seal rfl T.b_seal.g pass0 (pa_cons (Rl.pe_xc (pv 1)) pa_nil)) (pe_fn F_seal hr_seal rfl T.b_seal.g pass0 (pa_cons (Rl.pe_xc (pv 1)) pa_nil)) (nomark _)))))) pss_nil) (pss_one (ps_ret (pv 2)))))))), ?_⟩
  obtain ⟨a, ns, rfl, hsa, fin⟩ := h
  refine ⟨_, rfl, a, ns, rfl, hsa, ?_, ?_⟩
  · intro e he H1 cls d ex
    obtain ⟨x, y, rfl, ne, es, okx, oky⟩ := he
    obtain ⟨rfl, dd, xv, yv, rfl, hdd, hx, hy⟩ := ex
    refine ⟨T.y_cc, _, rfl, fun a2 ha2 => ⟨_, rfl, fun hn => ?_⟩⟩
    have XC : XfC K (ad K "Clash") := ⟨T.o_ga, T.o_gg, T.e_Clash, T.o_hd⟩
    have nd : dd ≠ a2 := ne_of_none hdd ha2
    have s2 := same_put (o := Rl.exT a2 (ad K "Clash") (some dd)) (Same.refl H1) ha2
    have e2 : upd H1 a2 (Rl.exT a2 (ad K "Clash") (some dd)) a2 = some (Rl.exT a2 (ad K "Clash") (some dd)) := upd_same
    have d2 := s2 _ _ hdd
    have hx2 := hx.same s2
    have hy2 := hy.same s2
    generalize upd H1 a2 (Rl.exT a2 (ad K "Clash") (some dd)) = H2 at s2 e2 d2 hx2 hy2 ⊢
    refine ⟨_, rfl, rfl, _, rfl, iteT ⟨_, rfl, a2, _, dd, _, xv, rfl, XC, T.f_Clash_one, e2, d2, rfl, _, rfl, a2, _, dd, _, yv, rfl, XC, T.f_Clash_other, e2, d2, rfl, x, y, hx2, hy2, Nat.le_trans okx.depth (by decide), ?_⟩⟩
    rw [decide_eq_false ne]
    refine ⟨_, rfl, iteT ⟨_, rfl, a2, _, dd, _, xv, rfl, XC, T.f_Clash_one, e2, d2, rfl, xv, x, rfl, hx2, okx, fun H3 s3 => ⟨_, rfl, a2, _, dd, _, yv, rfl, XC, T.f_Clash_other, s3 _ _ e2, s3 _ _ d2, rfl, yv, y, rfl, hy2.same s3, oky, fun H4 s4 => ⟨rfl, ?_⟩⟩⟩⟩
    rw [es, decide_eq_true rfl]
    exact fin H4
  · intro H1
    exact ⟨_, rfl, rfl, _, rfl, iteF ⟨_, rfl, fin H1⟩⟩
end Wk
set_option Elab.async false
set_option linter.all false
set_option maxRecDepth 100000
set_option maxHeartbeats 0
/-! The head's hook. -/
namespace Wk
open PySem PySem.Spec PyProof.Rows L2
def addrs : List Addr := [2, 3, 4, 6, 23, 24, 25, 36, 37, 48, 49, 60, 61, 76, 77, 79, 80, 91, 92, 103, 104, 115, 116, 127, 128, 139, 140, 151, 152, 163, 164, 175, 176, 187, 188, 199, 200, 211, 212, 220, 221, 227, 228, 234, 235, 241, 242, 248, 249, 255, 256, 262, 263, 269, 270, 276, 277, 283, 284, 297, 298, 304, 305, 311, 312, 318, 319, 321, 322, 323, 324, 337, 338, 340, 341, 356, 357, 363, 364, 370, 371, 375, 376, 378, 379, 394, 395, 397, 398, 406, 407, 413, 414, 420, 421, 427, 428, 434, 435, 441, 442, 448, 449, 455, 456, 462, 463, 469, 470, 476, 477, 483, 484, 490, 491, 497, 498, 504, 505, 511, 512, 518, 519, 525, 526, 532, 533, 539, 540, 546, 547, 553, 554, 560, 561, 567, 568, 574, 575, 588, 589, 591, 592, 593, 594, 609, 610, 616, 617, 619, 620, 635, 636, 642, 643, 645, 646, 661, 662, 668, 669, 671, 672, 687, 688, 694, 695, 697, 698, 713, 714, 720, 721, 723, 724, 739, 740, 746, 747, 749, 750, 765, 766, 770, 771, 773, 774, 782, 783, 789, 790, 794, 795, 799, 800, 804, 805, 811, 812, 816, 817, 823, 824, 830, 831, 837, 838, 844, 845, 851, 852, 856, 857, 861, 862, 866, 867, 873, 874, 880, 881, 887, 888, 894, 895]
def dd : List He.DefD := [
  ⟨("Clash", some "__init__"), "__init__", "Clash.__init__", defArgs (inner (top 5) 0), defBody (inner (top 5) 0), defScope (inner (top 5) 0), [], []⟩,
  ⟨("text_codes", none), "text_codes", "text_codes", defArgs (top 23), defBody (top 23), defScope (top 23), [], []⟩,
  ⟨("codes_of", none), "codes_of", "codes_of", defArgs (top 24), defBody (top 24), defScope (top 24), [], []⟩,
  ⟨("seal", none), "seal", "seal", defArgs (top 25), defBody (top 25), defScope (top 25), [], []⟩,
  ⟨("is_number", none), "is_number", "is_number", defArgs (top 31), defBody (top 31), defScope (top 31), [], []⟩,
  ⟨("is_text", none), "is_text", "is_text", defArgs (top 32), defBody (top 32), defScope (top 32), [], []⟩,
  ⟨("is_within_things", none), "is_within", "is_within", defArgs (top 33), defBody (top 33), defScope (top 33), [], []⟩,
  ⟨("is_thing", none), "is_thing", "is_thing", defArgs (top 35), defBody (top 35), defScope (top 35), [], []⟩,
  ⟨("kind_of", none), "kind_of", "kind_of", defArgs (top 36), defBody (top 36), defScope (top 36), [], []⟩,
  ⟨("side_of", none), "side_of", "side_of", defArgs (top 37), defBody (top 37), defScope (top 37), [], []⟩,
  ⟨("ahead", none), "ahead", "ahead", defArgs (top 38), defBody (top 38), defScope (top 38), [], []⟩,
  ⟨("Vault", some "__init__"), "__init__", "Vault.__init__", defArgs (inner (top 40) 0), defBody (inner (top 40) 0), defScope (inner (top 40) 0), [], []⟩,
  ⟨("Vault", some "lay"), "lay", "Vault.lay", defArgs (inner (top 40) 1), defBody (inner (top 40) 1), defScope (inner (top 40) 1), [], []⟩,
  ⟨("Vault", some "thing"), "thing", "Vault.thing", defArgs (inner (top 40) 2), defBody (inner (top 40) 2), defScope (inner (top 40) 2), [], []⟩,
  ⟨("Vault", some "has"), "has", "Vault.has", defArgs (inner (top 40) 3), defBody (inner (top 40) 3), defScope (inner (top 40) 3), [], []⟩,
  ⟨("Keeper", some "things"), "things", "Keeper.things", defArgs (inner (top 41) 0), defBody (inner (top 41) 0), defScope (inner (top 41) 0), [], []⟩,
  ⟨("Reader", some "__init__"), "__init__", "Reader.__init__", defArgs (inner (top 42) 0), defBody (inner (top 42) 0), defScope (inner (top 42) 0), [], []⟩,
  ⟨("Reader", some "lay"), "lay", "Reader.lay", defArgs (inner (top 42) 1), defBody (inner (top 42) 1), defScope (inner (top 42) 1), [], []⟩,
  ⟨("Reader", some "thing"), "thing", "Reader.thing", defArgs (inner (top 42) 2), defBody (inner (top 42) 2), defScope (inner (top 42) 2), [], []⟩,
  ⟨("Reader", some "paper"), "paper", "Reader.paper", defArgs (inner (top 42) 3), defBody (inner (top 42) 3), defScope (inner (top 42) 3), [], []⟩,
  ⟨("Witness", some "__init__"), "__init__", "Witness.__init__", defArgs (inner (top 43) 0), defBody (inner (top 43) 0), defScope (inner (top 43) 0), [], []⟩,
  ⟨("answer_with_paper", none), "answer_with_paper", "answer_with_paper", defArgs (top 45), defBody (top 45), defScope (top 45), [], []⟩,
  ⟨("checked", none), "checked", "checked", defArgs (top 46), defBody (top 46), defScope (top 46), [], []⟩,
  ⟨("is_whole", none), "is_whole", "is_whole", defArgs (top 49), defBody (top 49), defScope (top 49), [], []⟩,
  ⟨("is_node", none), "is_node", "is_node", defArgs (top 50), defBody (top 50), defScope (top 50), [], []⟩,
  ⟨("node_at", none), "node_at", "node_at", defArgs (top 51), defBody (top 51), defScope (top 51), [], []⟩,
  ⟨("node_beneath", none), "node_beneath", "node_beneath", defArgs (top 52), defBody (top 52), defScope (top 52), [], []⟩,
  ⟨("size", none), "size", "size", defArgs (top 53), defBody (top 53), defScope (top 53), [], []⟩,
  ⟨("size_beneath", none), "size_beneath", "size_beneath", defArgs (top 54), defBody (top 54), defScope (top 54), [], []⟩,
  ⟨("rank", none), "rank", "rank", defArgs (top 55), defBody (top 55), defScope (top 55), [], []⟩,
  ⟨("above", none), "above", "above", defArgs (top 56), defBody (top 56), defScope (top 56), [], []⟩,
  ⟨("found", none), "found", "found", defArgs (top 59), defBody (top 59), defScope (top 59), [], []⟩,
  ⟨("goes_left", none), "goes_left", "goes_left", defArgs (top 60), defBody (top 60), defScope (top 60), [], []⟩,
  ⟨("goes_right", none), "goes_right", "goes_right", defArgs (top 61), defBody (top 61), defScope (top 61), [], []⟩,
  ⟨("is_within_trees", none), "is_within", "is_within", defArgs (top 62), defBody (top 62), defScope (top 62), [], []⟩,
  ⟨("need_counted", none), "need_counted", "need_counted", defArgs (top 64), defBody (top 64), defScope (top 64), [], []⟩,
  ⟨("is_empty", none), "is_empty", "is_empty", defArgs (top 65), defBody (top 65), defScope (top 65), [], []⟩,
  ⟨("stretch", none), "stretch", "stretch", defArgs (top 66), defBody (top 66), defScope (top 66), [], []⟩,
  ⟨("ahead_of", none), "ahead_of", "ahead_of", defArgs (top 67), defBody (top 67), defScope (top 67), [], []⟩,
  ⟨("counted", none), "counted", "counted", defArgs (top 68), defBody (top 68), defScope (top 68), [], []⟩,
  ⟨("nth", none), "nth", "nth", defArgs (top 69), defBody (top 69), defScope (top 69), [], []⟩,
  ⟨("part", none), "part", "part", defArgs (top 70), defBody (top 70), defScope (top 70), [], []⟩,
  ⟨("joined", none), "joined", "joined", defArgs (top 71), defBody (top 71), defScope (top 71), [], []⟩,
  ⟨("rebuilt", none), "rebuilt", "rebuilt", defArgs (top 72), defBody (top 72), defScope (top 72), [], []⟩,
  ⟨("put", none), "put", "put", defArgs (top 73), defBody (top 73), defScope (top 73), [], []⟩,
  ⟨("cut", none), "cut", "cut", defArgs (top 74), defBody (top 74), defScope (top 74), [], []⟩,
  ⟨("Find", some "__init__"), "__init__", "Find.__init__", defArgs (inner (top 77) 0), defBody (inner (top 77) 0), defScope (inner (top 77) 0), [], []⟩,
  ⟨("Find", some "answer"), "answer", "Find.answer", defArgs (inner (top 77) 1), defBody (inner (top 77) 1), defScope (inner (top 77) 1), [], []⟩,
  ⟨("Stretch", some "__init__"), "__init__", "Stretch.__init__", defArgs (inner (top 78) 0), defBody (inner (top 78) 0), defScope (inner (top 78) 0), [], []⟩,
  ⟨("Stretch", some "answer"), "answer", "Stretch.answer", defArgs (inner (top 78) 1), defBody (inner (top 78) 1), defScope (inner (top 78) 1), [], []⟩,
  ⟨("Count", some "__init__"), "__init__", "Count.__init__", defArgs (inner (top 79) 0), defBody (inner (top 79) 0), defScope (inner (top 79) 0), [], []⟩,
  ⟨("Count", some "answer"), "answer", "Count.answer", defArgs (inner (top 79) 1), defBody (inner (top 79) 1), defScope (inner (top 79) 1), [], []⟩,
  ⟨("Nth", some "__init__"), "__init__", "Nth.__init__", defArgs (inner (top 80) 0), defBody (inner (top 80) 0), defScope (inner (top 80) 0), [], []⟩,
  ⟨("Nth", some "answer"), "answer", "Nth.answer", defArgs (inner (top 80) 1), defBody (inner (top 80) 1), defScope (inner (top 80) 1), [], []⟩,
  ⟨("Put", some "__init__"), "__init__", "Put.__init__", defArgs (inner (top 81) 0), defBody (inner (top 81) 0), defScope (inner (top 81) 0), [], []⟩,
  ⟨("Put", some "answer"), "answer", "Put.answer", defArgs (inner (top 81) 1), defBody (inner (top 81) 1), defScope (inner (top 81) 1), [], []⟩,
  ⟨("Cut", some "__init__"), "__init__", "Cut.__init__", defArgs (inner (top 82) 0), defBody (inner (top 82) 0), defScope (inner (top 82) 0), [], []⟩,
  ⟨("Cut", some "answer"), "answer", "Cut.answer", defArgs (inner (top 82) 1), defBody (inner (top 82) 1), defScope (inner (top 82) 1), [], []⟩,
  ⟨("Also", some "__init__"), "__init__", "Also.__init__", defArgs (inner (top 83) 0), defBody (inner (top 83) 0), defScope (inner (top 83) 0), [], []⟩,
  ⟨("Also", some "answer"), "answer", "Also.answer", defArgs (inner (top 83) 1), defBody (inner (top 83) 1), defScope (inner (top 83) 1), [], []⟩,
  ⟨("_law_row", none), "_law_row", "_law_row", defArgs (top 85), defBody (top 85), defScope (top 85), [], []⟩,
  ⟨("_law_take", none), "_law_take", "_law_take", defArgs (top 86), defBody (top 86), defScope (top 86), [], []⟩,
  ⟨("_law_text", none), "_law_text", "_law_text", defArgs (top 87), defBody (top 87), defScope (top 87), [], []⟩,
  ⟨("_law_thing", none), "_law_thing", "_law_thing", defArgs (top 88), defBody (top 88), defScope (top 88), [], []⟩,
  ⟨("_law_first", none), "_law_first", "_law_first", defArgs (top 89), defBody (top 89), defScope (top 89), [], []⟩,
  ⟨("_law_some", none), "_law_some", "_law_some", defArgs (top 90), defBody (top 90), defScope (top 90), [], []⟩,
  ⟨("_law_grown", none), "_law_grown", "_law_grown", defArgs (top 92), defBody (top 92), defScope (top 92), [], []⟩,
  ⟨("_law_key", none), "_law_key", "_law_key", defArgs (top 94), defBody (top 94), defScope (top 94), [], []⟩,
  ⟨("_law_ask", none), "_law_ask", "_law_ask", defArgs (top 95), defBody (top 95), defScope (top 95), [], []⟩,
  ⟨("_law_lacks", none), "_law_lacks", "_law_lacks", defArgs (top 96), defBody (top 96), defScope (top 96), [], []⟩,
  ⟨("_law_copy", none), "_law_copy", "_law_copy", defArgs (top 97), defBody (top 97), defScope (top 97), [], []⟩,
  ⟨("_law_paper_right", none), "_law_paper_right", "_law_paper_right", defArgs (top 98), defBody (top 98), defScope (top 98), [], []⟩,
  ⟨("_law_others", none), "_law_others", "_law_others", defArgs (top 99), defBody (top 99), defScope (top 99), [], []⟩,
  ⟨("_law_own", none), "_law_own", "_law_own", defArgs (top 100), defBody (top 100), defScope (top 100), [], []⟩,
  ⟨("_law_right", none), "_law_right", "_law_right", defArgs (top 101), defBody (top 101), defScope (top 101), [], []⟩,
  ⟨("_law_held", none), "_law_held", "_law_held", defArgs (top 102), defBody (top 102), defScope (top 102), [], []⟩,
  ⟨("law", none), "law", "law", defArgs (top 103), defBody (top 103), defScope (top 103), [], []⟩]
def fa : List He.Fa := [.glo "text_codes", .keep "text_codes", .glo "codes_of", .keep "codes_of", .glo "seal", .keep "seal", .glo "is_number", .keep "is_number", .glo "is_text", .keep "is_text", .glo "is_within_things", .keep "is_within_things", .glo "is_thing", .keep "is_thing", .glo "kind_of", .keep "kind_of", .glo "side_of", .keep "side_of", .glo "ahead", .keep "ahead", .glo "answer_with_paper", .keep "answer_with_paper", .glo "checked", .keep "checked", .glo "is_whole", .keep "is_whole", .glo "is_node", .keep "is_node", .glo "node_at", .keep "node_at", .glo "node_beneath", .keep "node_beneath", .glo "size", .keep "size", .glo "size_beneath", .keep "size_beneath", .glo "rank", .keep "rank", .glo "above", .keep "above", .glo "found", .keep "found", .glo "goes_left", .keep "goes_left", .glo "goes_right", .keep "goes_right", .glo "is_within_trees", .keep "is_within_trees", .glo "need_counted", .keep "need_counted", .glo "is_empty", .keep "is_empty", .glo "stretch", .keep "stretch", .glo "ahead_of", .keep "ahead_of", .glo "counted", .keep "counted", .glo "nth", .keep "nth", .glo "part", .keep "part", .glo "joined", .keep "joined", .glo "rebuilt", .keep "rebuilt", .glo "put", .keep "put", .glo "cut", .keep "cut", .glo "_law_row", .keep "_law_row", .glo "_law_take", .keep "_law_take", .glo "_law_text", .keep "_law_text", .glo "_law_thing", .keep "_law_thing", .glo "_law_first", .keep "_law_first", .glo "_law_some", .keep "_law_some", .glo "_law_grown", .keep "_law_grown", .glo "_law_key", .keep "_law_key", .glo "_law_ask", .keep "_law_ask", .glo "_law_lacks", .keep "_law_lacks", .glo "_law_copy", .keep "_law_copy", .glo "_law_paper_right", .keep "_law_paper_right", .glo "_law_others", .keep "_law_others", .glo "_law_own", .keep "_law_own", .glo "_law_right", .keep "_law_right", .glo "_law_held", .keep "_law_held", .glo "law", .keep "law", .int "MOST_SEAL" 2305843009213693951, .int "BASE" 1234567890123456789, .int "BEGIN" 7, .int "HALF" 1000000000000000, .int "LEAST" 1000000000000000000000000000000, .int "MOST_NUMBER" 1000000000000000000000000000000, .int "MOST_SIGNS" 60, .int "MOST_THINGS" 40, .int "DEEPEST" 5, .int "MOST_NODES" 300, .int "UNBOUND" 301, .free "len", .free "ord", .free "range", .free "isinstance", .free "int", .free "str", .free "bool", .free "tuple", .free "list", .free "reversed", .free "zip", .free "sorted", .free "ValueError", .glo "Vault", .keep "Vault", .glo "Keeper", .keep "Keeper", .glo "Reader", .keep "Reader", .glo "Witness", .keep "Witness", .glo "Find", .keep "Find", .glo "Stretch", .keep "Stretch", .glo "Count", .keep "Count", .glo "Nth", .keep "Nth", .glo "Put", .keep "Put", .glo "Cut", .keep "Cut", .glo "Also", .keep "Also", .glo "NoPaper", .keep "NoPaper", .glo "Clash", .keep "Clash", .glo "BadThing", .keep "BadThing", .glo "NoColumn", .keep "NoColumn", .glo "NoCommand", .keep "NoCommand", .glo "NoName", .keep "NoName", .glo "NoPlan", .keep "NoPlan", .glo "NoQuestion", .keep "NoQuestion", .glo "NoRow", .keep "NoRow", .glo "NoState", .keep "NoState", .glo "NoStep", .keep "NoStep", .glo "NoTable", .keep "NoTable", .glo "NoThing", .keep "NoThing", .glo "NotOn", .keep "NotOn", .glo "NotSo", .keep "NotSo", .glo "VaultError", .keep "VaultError", .cls "Vault", .cls "Keeper", .cls "Reader", .cls "Witness", .cls "Find", .cls "Stretch", .cls "Count", .cls "Nth", .cls "Put", .cls "Cut", .cls "Also", .noat "Vault" "by_seal", .noat "Keeper" "by_seal", .noat "Witness" "by_seal", .noat "Reader" "by_seal", .noat "Reader" "beneath", .noat "Reader" "noted", .noat "Find" "key", .noat "Stretch" "low", .noat "Stretch" "high", .noat "Count" "low", .noat "Count" "high", .noat "Nth" "number", .noat "Put" "key", .noat "Put" "worth", .noat "Cut" "key", .noat "Also" "asks", .noat "Clash" "one", .noat "Clash" "other", .noat "Clash" "__getattr__", .noat "NoPaper" "__getattr__"]
def fcB (a : Option PySem.W.CFound) (v : Value) : Bool := match a with
  | some (.val u) => decide (u = v)
  | _ => false
theorem fcB_ok {a : Option PySem.W.CFound} {v : Value} (h : fcB a v = true) : a = some (.val v) := by
  unfold fcB at h
  split at h
  · rw [of_decide_eq_true h]
  · cases h
def tbs (K : PySem.W.Frag) : List Bool := [
  He.eqO (PySem.W.findIn K (.ref (ad K "Vault")) "lay") (some (some (.ref (am K "Vault" "lay")))),
  PySem.W.isFn K (.ref (am K "Vault" "lay")),
  PySem.W.keepIn K (.ref (am K "Vault" "lay")),
  He.eqO (PySem.W.findIn K (.ref (ad K "Vault")) "thing") (some (some (.ref (am K "Vault" "thing")))),
  PySem.W.isFn K (.ref (am K "Vault" "thing")),
  PySem.W.keepIn K (.ref (am K "Vault" "thing")),
  He.eqO (PySem.W.findIn K (.ref (ad K "Vault")) "has") (some (some (.ref (am K "Vault" "has")))),
  PySem.W.isFn K (.ref (am K "Vault" "has")),
  PySem.W.keepIn K (.ref (am K "Vault" "has")),
  He.eqO (PySem.W.findIn K (.ref (ad K "Keeper")) "lay") (some (some (.ref (am K "Vault" "lay")))),
  He.eqO (PySem.W.findIn K (.ref (ad K "Keeper")) "thing") (some (some (.ref (am K "Vault" "thing")))),
  He.eqO (PySem.W.findIn K (.ref (ad K "Keeper")) "has") (some (some (.ref (am K "Vault" "has")))),
  He.eqO (PySem.W.findIn K (.ref (ad K "Keeper")) "things") (some (some (.ref (am K "Keeper" "things")))),
  PySem.W.isFn K (.ref (am K "Keeper" "things")),
  PySem.W.keepIn K (.ref (am K "Keeper" "things")),
  He.eqO (PySem.W.findIn K (.ref (ad K "Witness")) "lay") (some (some (.ref (am K "Vault" "lay")))),
  He.eqO (PySem.W.findIn K (.ref (ad K "Witness")) "thing") (some (some (.ref (am K "Vault" "thing")))),
  He.eqO (PySem.W.findIn K (.ref (ad K "Witness")) "has") (some (some (.ref (am K "Vault" "has")))),
  He.eqO (PySem.W.findIn K (.ref (ad K "Reader")) "lay") (some (some (.ref (am K "Reader" "lay")))),
  PySem.W.isFn K (.ref (am K "Reader" "lay")),
  PySem.W.keepIn K (.ref (am K "Reader" "lay")),
  He.eqO (PySem.W.findIn K (.ref (ad K "Reader")) "thing") (some (some (.ref (am K "Reader" "thing")))),
  PySem.W.isFn K (.ref (am K "Reader" "thing")),
  PySem.W.keepIn K (.ref (am K "Reader" "thing")),
  He.eqO (PySem.W.findIn K (.ref (ad K "Reader")) "has") (some (some (.ref (am K "Vault" "has")))),
  He.eqO (PySem.W.findIn K (.ref (ad K "Reader")) "paper") (some (some (.ref (am K "Reader" "paper")))),
  PySem.W.isFn K (.ref (am K "Reader" "paper")),
  PySem.W.keepIn K (.ref (am K "Reader" "paper")),
  He.eqO (PySem.W.findIn K (.ref (ad K "Find")) "answer") (some (some (.ref (am K "Find" "answer")))),
  PySem.W.isFn K (.ref (am K "Find" "answer")),
  PySem.W.keepIn K (.ref (am K "Find" "answer")),
  He.eqO (PySem.W.findIn K (.ref (ad K "Stretch")) "answer") (some (some (.ref (am K "Stretch" "answer")))),
  PySem.W.isFn K (.ref (am K "Stretch" "answer")),
  PySem.W.keepIn K (.ref (am K "Stretch" "answer")),
  He.eqO (PySem.W.findIn K (.ref (ad K "Count")) "answer") (some (some (.ref (am K "Count" "answer")))),
  PySem.W.isFn K (.ref (am K "Count" "answer")),
  PySem.W.keepIn K (.ref (am K "Count" "answer")),
  He.eqO (PySem.W.findIn K (.ref (ad K "Nth")) "answer") (some (some (.ref (am K "Nth" "answer")))),
  PySem.W.isFn K (.ref (am K "Nth" "answer")),
  PySem.W.keepIn K (.ref (am K "Nth" "answer")),
  He.eqO (PySem.W.findIn K (.ref (ad K "Put")) "answer") (some (some (.ref (am K "Put" "answer")))),
  PySem.W.isFn K (.ref (am K "Put" "answer")),
  PySem.W.keepIn K (.ref (am K "Put" "answer")),
  He.eqO (PySem.W.findIn K (.ref (ad K "Cut")) "answer") (some (some (.ref (am K "Cut" "answer")))),
  PySem.W.isFn K (.ref (am K "Cut" "answer")),
  PySem.W.keepIn K (.ref (am K "Cut" "answer")),
  He.eqO (PySem.W.findIn K (.ref (ad K "Also")) "answer") (some (some (.ref (am K "Also" "answer")))),
  PySem.W.isFn K (.ref (am K "Also" "answer")),
  PySem.W.keepIn K (.ref (am K "Also" "answer")),
  PySem.W.makesIn K (ad K "Keeper"),
  He.eqO (PySem.W.findIn K (.ref (ad K "Keeper")) "__init__") (some (some (.ref (am K "Vault" "__init__")))),
  PySem.W.isFn K (.ref (am K "Vault" "__init__")),
  PySem.W.keepIn K (.ref (ad K "Keeper")),
  PySem.W.makesIn K (ad K "Reader"),
  He.eqO (PySem.W.findIn K (.ref (ad K "Reader")) "__init__") (some (some (.ref (am K "Reader" "__init__")))),
  PySem.W.isFn K (.ref (am K "Reader" "__init__")),
  PySem.W.keepIn K (.ref (ad K "Reader")),
  PySem.W.makesIn K (ad K "Witness"),
  He.eqO (PySem.W.findIn K (.ref (ad K "Witness")) "__init__") (some (some (.ref (am K "Witness" "__init__")))),
  PySem.W.isFn K (.ref (am K "Witness" "__init__")),
  PySem.W.keepIn K (.ref (ad K "Witness")),
  PySem.W.makesIn K (ad K "Find"),
  He.eqO (PySem.W.findIn K (.ref (ad K "Find")) "__init__") (some (some (.ref (am K "Find" "__init__")))),
  PySem.W.isFn K (.ref (am K "Find" "__init__")),
  PySem.W.keepIn K (.ref (ad K "Find")),
  PySem.W.makesIn K (ad K "Stretch"),
  He.eqO (PySem.W.findIn K (.ref (ad K "Stretch")) "__init__") (some (some (.ref (am K "Stretch" "__init__")))),
  PySem.W.isFn K (.ref (am K "Stretch" "__init__")),
  PySem.W.keepIn K (.ref (ad K "Stretch")),
  PySem.W.makesIn K (ad K "Count"),
  He.eqO (PySem.W.findIn K (.ref (ad K "Count")) "__init__") (some (some (.ref (am K "Count" "__init__")))),
  PySem.W.isFn K (.ref (am K "Count" "__init__")),
  PySem.W.keepIn K (.ref (ad K "Count")),
  PySem.W.makesIn K (ad K "Nth"),
  He.eqO (PySem.W.findIn K (.ref (ad K "Nth")) "__init__") (some (some (.ref (am K "Nth" "__init__")))),
  PySem.W.isFn K (.ref (am K "Nth" "__init__")),
  PySem.W.keepIn K (.ref (ad K "Nth")),
  PySem.W.makesIn K (ad K "Put"),
  He.eqO (PySem.W.findIn K (.ref (ad K "Put")) "__init__") (some (some (.ref (am K "Put" "__init__")))),
  PySem.W.isFn K (.ref (am K "Put" "__init__")),
  PySem.W.keepIn K (.ref (ad K "Put")),
  PySem.W.makesIn K (ad K "Cut"),
  He.eqO (PySem.W.findIn K (.ref (ad K "Cut")) "__init__") (some (some (.ref (am K "Cut" "__init__")))),
  PySem.W.isFn K (.ref (am K "Cut" "__init__")),
  PySem.W.keepIn K (.ref (ad K "Cut")),
  PySem.W.makesIn K (ad K "Also"),
  He.eqO (PySem.W.findIn K (.ref (ad K "Also")) "__init__") (some (some (.ref (am K "Also" "__init__")))),
  PySem.W.isFn K (.ref (am K "Also" "__init__")),
  PySem.W.keepIn K (.ref (ad K "Also")),
  PySem.W.readsIn K (ad K "Vault") (.type "type"),
  He.eqO (PySem.W.specialIn K (.ref (ad K "Vault")) "__getattribute__") (some (some (.builtin "type.__getattribute__"))),
  PySem.W.readsIn K (ad K "VaultError") (.type "type"),
  He.eqO (PySem.W.specialIn K (.ref (ad K "VaultError")) "__getattribute__") (some (some (.builtin "type.__getattribute__"))),
  fcB (PySem.W.findCls K (.ref (ad K "Vault")) (.type "type") "__init__") (.ref (am K "Vault" "__init__")),
  fcB (PySem.W.findCls K (.ref (ad K "Vault")) (.type "type") "lay") (.ref (am K "Vault" "lay")),
  fcB (PySem.W.findCls K (.ref (ad K "Vault")) (.type "type") "thing") (.ref (am K "Vault" "thing")),
  fcB (PySem.W.findCls K (.ref (ad K "VaultError")) (.type "type") "__init__") (.builtin "ValueError.__init__"),
  PySem.W.excIn K (ad K "NoPaper") He.veBase "ValueError.__new__",
  excClsB K (ad K "Clash"),
  He.eqO (PySem.W.findIn K (.ref (ad K "Clash")) "__setattr__") (some (some (.builtin "object.__setattr__"))),
  He.eqO (PySem.W.findIn K (.ref (ad K "Clash")) "__init__") (some (some (.ref (am K "Clash" "__init__")))),
  decide (PySem.W.typeIn K (.ref (am K "Clash" "__init__")) = some (.type "function")),
  He.eqO (PySem.W.findIn K (.ref (ad K "Clash")) "__getattribute__") (some (some (.builtin "BaseException.__getattribute__"))),
  PySem.W.hasDictIn K (ad K "Clash"),
  decide (PySem.W.subIn K (.ref (ad K "NoPaper")) (.type "BaseException") = some true),
  decide (PySem.W.typeIn K (.ref (ad K "NoPaper")) = some (.type "type")),
  decide (PySem.W.subIn K (.ref (ad K "Clash")) (.type "BaseException") = some true),
  decide (PySem.W.typeIn K (.ref (ad K "Clash")) = some (.type "type")),
  decide (PySem.W.exmOne K (.ref (ad K "Clash")) (.ref (ad K "Clash")) = some true),
  decide (PySem.W.exmOne K (.ref (ad K "NoPaper")) (.ref (ad K "VaultError")) = some true),
  He.eqO (PySem.W.findIn K (.ref (ad K "NoPaper")) "__getattribute__") (some (some (.builtin "BaseException.__getattribute__"))),
  PySem.W.hasDictIn K (ad K "NoPaper"),
  He.eqO (PySem.W.findIn K (.ref (ad K "NoPaper")) "__class__") (some (some (.builtin "object.__class__"))),
  He.eqO (PySem.W.specialIn K (.builtin "object.__class__") "__get__") (some (some (.builtin "getset_descriptor.__get__"))),
  decide (PySem.W.takesIn K (.builtin "object.__class__") = some true),
  decide (PySem.W.mroIn K (ad K "NoPaper") (.type "object") = some true),
  decide (PySem.W.kitOne K (.ref (ad K "NoPaper")) (.ref (ad K "NoPaper")) = some true),
  decide (PySem.W.kitOne K (.ref (ad K "NoPaper")) (.type "ValueError") = some true),
  decide (PySem.W.kitAny K (.ref (ad K "NoPaper")) [.ref (ad K "BadThing"), .ref (ad K "Clash"), .ref (ad K "NoColumn"), .ref (ad K "NoCommand"), .ref (ad K "NoName"), .ref (ad K "NoPlan"), .ref (ad K "NoQuestion"), .ref (ad K "NoRow"), .ref (ad K "NoState")] = some false),
  decide (PySem.W.kitAny K (.ref (ad K "NoPaper")) [.ref (ad K "NoStep"), .ref (ad K "NoTable"), .ref (ad K "NoThing"), .ref (ad K "NotOn"), .ref (ad K "NotSo")] = some false)]
def tbK (K : PySem.W.Frag) : Bool := (tbs K).all id
theorem tbK_at {K : PySem.W.Frag} (h : tbK K = true) (i : Nat) {b : Bool} (e : (tbs K)[i]? = some b) : b = true := List.all_eq_true.mp h b (List.mem_of_getElem? e)
structure SaysL (K : PySem.W.Frag) : Prop where
  tb : tbK K = true
  sd : He.SaysD fa dd K
abbrev AlL : Type := Bool × He.AlD
def obsL (g : Addr → Option Obj) : AlL := (tbK (He.frG g addrs), He.obsD fa dd (He.frG g addrs))
def valL : AlL := (true, He.valD dd)
def hookL : PySem.W.Hook where
  α := AlL
  obs := fun s => obsL s.heap.get?
  val := fun _ => valL
  says := fun _ h => ∃ K : PySem.W.Frag, K.In h ∧ tbK K = true ∧ He.SaysD fa dd K
  of := fun _ _ e => ⟨_, He.frG_in, congrArg (fun z : AlL => z.1) e, congrArg (fun z : AlL => z.2) e⟩
  keeps := fun _ _ _ ⟨K, hK, c⟩ k => ⟨K, PySem.W.Frag.In.keeps hK k, c⟩
theorem obsL_eq {g : Addr → Option Obj} {s : Shared} (h : ∀ a, g a = s.heap.get? a) : obsL g = hookL.obs s := by
  have e : g = s.heap.get? := funext h
  rw [e] <;> rfl
theorem tx_of {K : PySem.W.Frag} {h : Heap} {mg : Str → Option Value} (X : K.In h) (G : h.Ns mainGlobals mg) (c : tbK K = true ∧ He.SaysD fa dd K) : Tx K mg := by
  exact {
    d_Clash_init := c.2.def_ 0 rfl
    d_text_codes := c.2.def_ 1 rfl
    b_text_codes := ⟨He.glo_ok X G (x := "text_codes") (c.2.fact 0 rfl), He.keep_ok (x := "text_codes") (c.2.fact 1 rfl)⟩
    d_codes_of := c.2.def_ 2 rfl
    b_codes_of := ⟨He.glo_ok X G (x := "codes_of") (c.2.fact 2 rfl), He.keep_ok (x := "codes_of") (c.2.fact 3 rfl)⟩
    d_seal := c.2.def_ 3 rfl
    b_seal := ⟨He.glo_ok X G (x := "seal") (c.2.fact 4 rfl), He.keep_ok (x := "seal") (c.2.fact 5 rfl)⟩
    d_is_number := c.2.def_ 4 rfl
    b_is_number := ⟨He.glo_ok X G (x := "is_number") (c.2.fact 6 rfl), He.keep_ok (x := "is_number") (c.2.fact 7 rfl)⟩
    d_is_text := c.2.def_ 5 rfl
    b_is_text := ⟨He.glo_ok X G (x := "is_text") (c.2.fact 8 rfl), He.keep_ok (x := "is_text") (c.2.fact 9 rfl)⟩
    d_is_within_things := c.2.def_ 6 rfl
    b_is_within_things := ⟨He.glo_ok X G (x := "is_within_things") (c.2.fact 10 rfl), He.keep_ok (x := "is_within_things") (c.2.fact 11 rfl)⟩
    d_is_thing := c.2.def_ 7 rfl
    b_is_thing := ⟨He.glo_ok X G (x := "is_thing") (c.2.fact 12 rfl), He.keep_ok (x := "is_thing") (c.2.fact 13 rfl)⟩
    d_kind_of := c.2.def_ 8 rfl
    b_kind_of := ⟨He.glo_ok X G (x := "kind_of") (c.2.fact 14 rfl), He.keep_ok (x := "kind_of") (c.2.fact 15 rfl)⟩
    d_side_of := c.2.def_ 9 rfl
    b_side_of := ⟨He.glo_ok X G (x := "side_of") (c.2.fact 16 rfl), He.keep_ok (x := "side_of") (c.2.fact 17 rfl)⟩
    d_ahead := c.2.def_ 10 rfl
    b_ahead := ⟨He.glo_ok X G (x := "ahead") (c.2.fact 18 rfl), He.keep_ok (x := "ahead") (c.2.fact 19 rfl)⟩
    d_Vault_init := c.2.def_ 11 rfl
    d_Vault_lay := c.2.def_ 12 rfl
    d_Vault_thing := c.2.def_ 13 rfl
    d_Vault_has := c.2.def_ 14 rfl
    d_Keeper_things := c.2.def_ 15 rfl
    d_Reader_init := c.2.def_ 16 rfl
    d_Reader_lay := c.2.def_ 17 rfl
    d_Reader_thing := c.2.def_ 18 rfl
    d_Reader_paper := c.2.def_ 19 rfl
    d_Witness_init := c.2.def_ 20 rfl
    d_answer_with_paper := c.2.def_ 21 rfl
    b_answer_with_paper := ⟨He.glo_ok X G (x := "answer_with_paper") (c.2.fact 20 rfl), He.keep_ok (x := "answer_with_paper") (c.2.fact 21 rfl)⟩
    d_checked := c.2.def_ 22 rfl
    b_checked := ⟨He.glo_ok X G (x := "checked") (c.2.fact 22 rfl), He.keep_ok (x := "checked") (c.2.fact 23 rfl)⟩
    d_is_whole := c.2.def_ 23 rfl
    b_is_whole := ⟨He.glo_ok X G (x := "is_whole") (c.2.fact 24 rfl), He.keep_ok (x := "is_whole") (c.2.fact 25 rfl)⟩
    d_is_node := c.2.def_ 24 rfl
    b_is_node := ⟨He.glo_ok X G (x := "is_node") (c.2.fact 26 rfl), He.keep_ok (x := "is_node") (c.2.fact 27 rfl)⟩
    d_node_at := c.2.def_ 25 rfl
    b_node_at := ⟨He.glo_ok X G (x := "node_at") (c.2.fact 28 rfl), He.keep_ok (x := "node_at") (c.2.fact 29 rfl)⟩
    d_node_beneath := c.2.def_ 26 rfl
    b_node_beneath := ⟨He.glo_ok X G (x := "node_beneath") (c.2.fact 30 rfl), He.keep_ok (x := "node_beneath") (c.2.fact 31 rfl)⟩
    d_size := c.2.def_ 27 rfl
    b_size := ⟨He.glo_ok X G (x := "size") (c.2.fact 32 rfl), He.keep_ok (x := "size") (c.2.fact 33 rfl)⟩
    d_size_beneath := c.2.def_ 28 rfl
    b_size_beneath := ⟨He.glo_ok X G (x := "size_beneath") (c.2.fact 34 rfl), He.keep_ok (x := "size_beneath") (c.2.fact 35 rfl)⟩
    d_rank := c.2.def_ 29 rfl
    b_rank := ⟨He.glo_ok X G (x := "rank") (c.2.fact 36 rfl), He.keep_ok (x := "rank") (c.2.fact 37 rfl)⟩
    d_above := c.2.def_ 30 rfl
    b_above := ⟨He.glo_ok X G (x := "above") (c.2.fact 38 rfl), He.keep_ok (x := "above") (c.2.fact 39 rfl)⟩
    d_found := c.2.def_ 31 rfl
    b_found := ⟨He.glo_ok X G (x := "found") (c.2.fact 40 rfl), He.keep_ok (x := "found") (c.2.fact 41 rfl)⟩
    d_goes_left := c.2.def_ 32 rfl
    b_goes_left := ⟨He.glo_ok X G (x := "goes_left") (c.2.fact 42 rfl), He.keep_ok (x := "goes_left") (c.2.fact 43 rfl)⟩
    d_goes_right := c.2.def_ 33 rfl
    b_goes_right := ⟨He.glo_ok X G (x := "goes_right") (c.2.fact 44 rfl), He.keep_ok (x := "goes_right") (c.2.fact 45 rfl)⟩
    d_is_within_trees := c.2.def_ 34 rfl
    b_is_within_trees := ⟨He.glo_ok X G (x := "is_within_trees") (c.2.fact 46 rfl), He.keep_ok (x := "is_within_trees") (c.2.fact 47 rfl)⟩
    d_need_counted := c.2.def_ 35 rfl
    b_need_counted := ⟨He.glo_ok X G (x := "need_counted") (c.2.fact 48 rfl), He.keep_ok (x := "need_counted") (c.2.fact 49 rfl)⟩
    d_is_empty := c.2.def_ 36 rfl
    b_is_empty := ⟨He.glo_ok X G (x := "is_empty") (c.2.fact 50 rfl), He.keep_ok (x := "is_empty") (c.2.fact 51 rfl)⟩
    d_stretch := c.2.def_ 37 rfl
    b_stretch := ⟨He.glo_ok X G (x := "stretch") (c.2.fact 52 rfl), He.keep_ok (x := "stretch") (c.2.fact 53 rfl)⟩
    d_ahead_of := c.2.def_ 38 rfl
    b_ahead_of := ⟨He.glo_ok X G (x := "ahead_of") (c.2.fact 54 rfl), He.keep_ok (x := "ahead_of") (c.2.fact 55 rfl)⟩
    d_counted := c.2.def_ 39 rfl
    b_counted := ⟨He.glo_ok X G (x := "counted") (c.2.fact 56 rfl), He.keep_ok (x := "counted") (c.2.fact 57 rfl)⟩
    d_nth := c.2.def_ 40 rfl
    b_nth := ⟨He.glo_ok X G (x := "nth") (c.2.fact 58 rfl), He.keep_ok (x := "nth") (c.2.fact 59 rfl)⟩
    d_part := c.2.def_ 41 rfl
    b_part := ⟨He.glo_ok X G (x := "part") (c.2.fact 60 rfl), He.keep_ok (x := "part") (c.2.fact 61 rfl)⟩
    d_joined := c.2.def_ 42 rfl
    b_joined := ⟨He.glo_ok X G (x := "joined") (c.2.fact 62 rfl), He.keep_ok (x := "joined") (c.2.fact 63 rfl)⟩
    d_rebuilt := c.2.def_ 43 rfl
    b_rebuilt := ⟨He.glo_ok X G (x := "rebuilt") (c.2.fact 64 rfl), He.keep_ok (x := "rebuilt") (c.2.fact 65 rfl)⟩
    d_put := c.2.def_ 44 rfl
    b_put := ⟨He.glo_ok X G (x := "put") (c.2.fact 66 rfl), He.keep_ok (x := "put") (c.2.fact 67 rfl)⟩
    d_cut := c.2.def_ 45 rfl
    b_cut := ⟨He.glo_ok X G (x := "cut") (c.2.fact 68 rfl), He.keep_ok (x := "cut") (c.2.fact 69 rfl)⟩
    d_Find_init := c.2.def_ 46 rfl
    d_Find_answer := c.2.def_ 47 rfl
    d_Stretch_init := c.2.def_ 48 rfl
    d_Stretch_answer := c.2.def_ 49 rfl
    d_Count_init := c.2.def_ 50 rfl
    d_Count_answer := c.2.def_ 51 rfl
    d_Nth_init := c.2.def_ 52 rfl
    d_Nth_answer := c.2.def_ 53 rfl
    d_Put_init := c.2.def_ 54 rfl
    d_Put_answer := c.2.def_ 55 rfl
    d_Cut_init := c.2.def_ 56 rfl
    d_Cut_answer := c.2.def_ 57 rfl
    d_Also_init := c.2.def_ 58 rfl
    d_Also_answer := c.2.def_ 59 rfl
    d__law_row := c.2.def_ 60 rfl
    b__law_row := ⟨He.glo_ok X G (x := "_law_row") (c.2.fact 70 rfl), He.keep_ok (x := "_law_row") (c.2.fact 71 rfl)⟩
    d__law_take := c.2.def_ 61 rfl
    b__law_take := ⟨He.glo_ok X G (x := "_law_take") (c.2.fact 72 rfl), He.keep_ok (x := "_law_take") (c.2.fact 73 rfl)⟩
    d__law_text := c.2.def_ 62 rfl
    b__law_text := ⟨He.glo_ok X G (x := "_law_text") (c.2.fact 74 rfl), He.keep_ok (x := "_law_text") (c.2.fact 75 rfl)⟩
    d__law_thing := c.2.def_ 63 rfl
    b__law_thing := ⟨He.glo_ok X G (x := "_law_thing") (c.2.fact 76 rfl), He.keep_ok (x := "_law_thing") (c.2.fact 77 rfl)⟩
    d__law_first := c.2.def_ 64 rfl
    b__law_first := ⟨He.glo_ok X G (x := "_law_first") (c.2.fact 78 rfl), He.keep_ok (x := "_law_first") (c.2.fact 79 rfl)⟩
    d__law_some := c.2.def_ 65 rfl
    b__law_some := ⟨He.glo_ok X G (x := "_law_some") (c.2.fact 80 rfl), He.keep_ok (x := "_law_some") (c.2.fact 81 rfl)⟩
    d__law_grown := c.2.def_ 66 rfl
    b__law_grown := ⟨He.glo_ok X G (x := "_law_grown") (c.2.fact 82 rfl), He.keep_ok (x := "_law_grown") (c.2.fact 83 rfl)⟩
    d__law_key := c.2.def_ 67 rfl
    b__law_key := ⟨He.glo_ok X G (x := "_law_key") (c.2.fact 84 rfl), He.keep_ok (x := "_law_key") (c.2.fact 85 rfl)⟩
    d__law_ask := c.2.def_ 68 rfl
    b__law_ask := ⟨He.glo_ok X G (x := "_law_ask") (c.2.fact 86 rfl), He.keep_ok (x := "_law_ask") (c.2.fact 87 rfl)⟩
    d__law_lacks := c.2.def_ 69 rfl
    b__law_lacks := ⟨He.glo_ok X G (x := "_law_lacks") (c.2.fact 88 rfl), He.keep_ok (x := "_law_lacks") (c.2.fact 89 rfl)⟩
    d__law_copy := c.2.def_ 70 rfl
    b__law_copy := ⟨He.glo_ok X G (x := "_law_copy") (c.2.fact 90 rfl), He.keep_ok (x := "_law_copy") (c.2.fact 91 rfl)⟩
    d__law_paper_right := c.2.def_ 71 rfl
    b__law_paper_right := ⟨He.glo_ok X G (x := "_law_paper_right") (c.2.fact 92 rfl), He.keep_ok (x := "_law_paper_right") (c.2.fact 93 rfl)⟩
    d__law_others := c.2.def_ 72 rfl
    b__law_others := ⟨He.glo_ok X G (x := "_law_others") (c.2.fact 94 rfl), He.keep_ok (x := "_law_others") (c.2.fact 95 rfl)⟩
    d__law_own := c.2.def_ 73 rfl
    b__law_own := ⟨He.glo_ok X G (x := "_law_own") (c.2.fact 96 rfl), He.keep_ok (x := "_law_own") (c.2.fact 97 rfl)⟩
    d__law_right := c.2.def_ 74 rfl
    b__law_right := ⟨He.glo_ok X G (x := "_law_right") (c.2.fact 98 rfl), He.keep_ok (x := "_law_right") (c.2.fact 99 rfl)⟩
    d__law_held := c.2.def_ 75 rfl
    b__law_held := ⟨He.glo_ok X G (x := "_law_held") (c.2.fact 100 rfl), He.keep_ok (x := "_law_held") (c.2.fact 101 rfl)⟩
    d_law := c.2.def_ 76 rfl
    b_law := ⟨He.glo_ok X G (x := "law") (c.2.fact 102 rfl), He.keep_ok (x := "law") (c.2.fact 103 rfl)⟩
    i_MOST_SEAL := He.int_ok X G (c.2.fact 104 rfl)
    i_BASE := He.int_ok X G (c.2.fact 105 rfl)
    i_BEGIN := He.int_ok X G (c.2.fact 106 rfl)
    i_HALF := He.int_ok X G (c.2.fact 107 rfl)
    i_LEAST := He.int_ok X G (c.2.fact 108 rfl)
    i_MOST_NUMBER := He.int_ok X G (c.2.fact 109 rfl)
    i_MOST_SIGNS := He.int_ok X G (c.2.fact 110 rfl)
    i_MOST_THINGS := He.int_ok X G (c.2.fact 111 rfl)
    i_DEEPEST := He.int_ok X G (c.2.fact 112 rfl)
    i_MOST_NODES := He.int_ok X G (c.2.fact 113 rfl)
    i_UNBOUND := He.int_ok X G (c.2.fact 114 rfl)
    n_len := He.free_ok X G (c.2.fact 115 rfl)
    n_ord := He.free_ok X G (c.2.fact 116 rfl)
    n_range := He.free_ok X G (c.2.fact 117 rfl)
    n_isinstance := He.free_ok X G (c.2.fact 118 rfl)
    n_int := He.free_ok X G (c.2.fact 119 rfl)
    n_str := He.free_ok X G (c.2.fact 120 rfl)
    n_bool := He.free_ok X G (c.2.fact 121 rfl)
    n_tuple := He.free_ok X G (c.2.fact 122 rfl)
    n_list := He.free_ok X G (c.2.fact 123 rfl)
    n_reversed := He.free_ok X G (c.2.fact 124 rfl)
    n_zip := He.free_ok X G (c.2.fact 125 rfl)
    n_sorted := He.free_ok X G (c.2.fact 126 rfl)
    n_ValueError := He.free_ok X G (c.2.fact 127 rfl)
    b_Vault := ⟨He.glo_ok X G (x := "Vault") (c.2.fact 128 rfl), He.keep_ok (x := "Vault") (c.2.fact 129 rfl)⟩
    b_Keeper := ⟨He.glo_ok X G (x := "Keeper") (c.2.fact 130 rfl), He.keep_ok (x := "Keeper") (c.2.fact 131 rfl)⟩
    b_Reader := ⟨He.glo_ok X G (x := "Reader") (c.2.fact 132 rfl), He.keep_ok (x := "Reader") (c.2.fact 133 rfl)⟩
    b_Witness := ⟨He.glo_ok X G (x := "Witness") (c.2.fact 134 rfl), He.keep_ok (x := "Witness") (c.2.fact 135 rfl)⟩
    b_Find := ⟨He.glo_ok X G (x := "Find") (c.2.fact 136 rfl), He.keep_ok (x := "Find") (c.2.fact 137 rfl)⟩
    b_Stretch := ⟨He.glo_ok X G (x := "Stretch") (c.2.fact 138 rfl), He.keep_ok (x := "Stretch") (c.2.fact 139 rfl)⟩
    b_Count := ⟨He.glo_ok X G (x := "Count") (c.2.fact 140 rfl), He.keep_ok (x := "Count") (c.2.fact 141 rfl)⟩
    b_Nth := ⟨He.glo_ok X G (x := "Nth") (c.2.fact 142 rfl), He.keep_ok (x := "Nth") (c.2.fact 143 rfl)⟩
    b_Put := ⟨He.glo_ok X G (x := "Put") (c.2.fact 144 rfl), He.keep_ok (x := "Put") (c.2.fact 145 rfl)⟩
    b_Cut := ⟨He.glo_ok X G (x := "Cut") (c.2.fact 146 rfl), He.keep_ok (x := "Cut") (c.2.fact 147 rfl)⟩
    b_Also := ⟨He.glo_ok X G (x := "Also") (c.2.fact 148 rfl), He.keep_ok (x := "Also") (c.2.fact 149 rfl)⟩
    b_NoPaper := ⟨He.glo_ok X G (x := "NoPaper") (c.2.fact 150 rfl), He.keep_ok (x := "NoPaper") (c.2.fact 151 rfl)⟩
    b_Clash := ⟨He.glo_ok X G (x := "Clash") (c.2.fact 152 rfl), He.keep_ok (x := "Clash") (c.2.fact 153 rfl)⟩
    b_BadThing := ⟨He.glo_ok X G (x := "BadThing") (c.2.fact 154 rfl), He.keep_ok (x := "BadThing") (c.2.fact 155 rfl)⟩
    b_NoColumn := ⟨He.glo_ok X G (x := "NoColumn") (c.2.fact 156 rfl), He.keep_ok (x := "NoColumn") (c.2.fact 157 rfl)⟩
    b_NoCommand := ⟨He.glo_ok X G (x := "NoCommand") (c.2.fact 158 rfl), He.keep_ok (x := "NoCommand") (c.2.fact 159 rfl)⟩
    b_NoName := ⟨He.glo_ok X G (x := "NoName") (c.2.fact 160 rfl), He.keep_ok (x := "NoName") (c.2.fact 161 rfl)⟩
    b_NoPlan := ⟨He.glo_ok X G (x := "NoPlan") (c.2.fact 162 rfl), He.keep_ok (x := "NoPlan") (c.2.fact 163 rfl)⟩
    b_NoQuestion := ⟨He.glo_ok X G (x := "NoQuestion") (c.2.fact 164 rfl), He.keep_ok (x := "NoQuestion") (c.2.fact 165 rfl)⟩
    b_NoRow := ⟨He.glo_ok X G (x := "NoRow") (c.2.fact 166 rfl), He.keep_ok (x := "NoRow") (c.2.fact 167 rfl)⟩
    b_NoState := ⟨He.glo_ok X G (x := "NoState") (c.2.fact 168 rfl), He.keep_ok (x := "NoState") (c.2.fact 169 rfl)⟩
    b_NoStep := ⟨He.glo_ok X G (x := "NoStep") (c.2.fact 170 rfl), He.keep_ok (x := "NoStep") (c.2.fact 171 rfl)⟩
    b_NoTable := ⟨He.glo_ok X G (x := "NoTable") (c.2.fact 172 rfl), He.keep_ok (x := "NoTable") (c.2.fact 173 rfl)⟩
    b_NoThing := ⟨He.glo_ok X G (x := "NoThing") (c.2.fact 174 rfl), He.keep_ok (x := "NoThing") (c.2.fact 175 rfl)⟩
    b_NotOn := ⟨He.glo_ok X G (x := "NotOn") (c.2.fact 176 rfl), He.keep_ok (x := "NotOn") (c.2.fact 177 rfl)⟩
    b_NotSo := ⟨He.glo_ok X G (x := "NotSo") (c.2.fact 178 rfl), He.keep_ok (x := "NotSo") (c.2.fact 179 rfl)⟩
    b_VaultError := ⟨He.glo_ok X G (x := "VaultError") (c.2.fact 180 rfl), He.keep_ok (x := "VaultError") (c.2.fact 181 rfl)⟩
    c_Vault := He.cls_ok (c.2.fact 182 rfl)
    c_Keeper := He.cls_ok (c.2.fact 183 rfl)
    c_Reader := He.cls_ok (c.2.fact 184 rfl)
    c_Witness := He.cls_ok (c.2.fact 185 rfl)
    c_Find := He.cls_ok (c.2.fact 186 rfl)
    c_Stretch := He.cls_ok (c.2.fact 187 rfl)
    c_Count := He.cls_ok (c.2.fact 188 rfl)
    c_Nth := He.cls_ok (c.2.fact 189 rfl)
    c_Put := He.cls_ok (c.2.fact 190 rfl)
    c_Cut := He.cls_ok (c.2.fact 191 rfl)
    c_Also := He.cls_ok (c.2.fact 192 rfl)
    f_Vault_by_seal := He.noat_ok (c.2.fact 193 rfl)
    f_Keeper_by_seal := He.noat_ok (c.2.fact 194 rfl)
    f_Witness_by_seal := He.noat_ok (c.2.fact 195 rfl)
    f_Reader_by_seal := He.noat_ok (c.2.fact 196 rfl)
    f_Reader_beneath := He.noat_ok (c.2.fact 197 rfl)
    f_Reader_noted := He.noat_ok (c.2.fact 198 rfl)
    f_Find_key := He.noat_ok (c.2.fact 199 rfl)
    f_Stretch_low := He.noat_ok (c.2.fact 200 rfl)
    f_Stretch_high := He.noat_ok (c.2.fact 201 rfl)
    f_Count_low := He.noat_ok (c.2.fact 202 rfl)
    f_Count_high := He.noat_ok (c.2.fact 203 rfl)
    f_Nth_number := He.noat_ok (c.2.fact 204 rfl)
    f_Put_key := He.noat_ok (c.2.fact 205 rfl)
    f_Put_worth := He.noat_ok (c.2.fact 206 rfl)
    f_Cut_key := He.noat_ok (c.2.fact 207 rfl)
    f_Also_asks := He.noat_ok (c.2.fact 208 rfl)
    f_Clash_one := He.noat_ok (c.2.fact 209 rfl)
    f_Clash_other := He.noat_ok (c.2.fact 210 rfl)
    m_Vault_lay := ⟨He.eqO_ok (tbK_at c.1 0 rfl), tbK_at c.1 1 rfl, tbK_at c.1 2 rfl⟩
    m_Vault_thing := ⟨He.eqO_ok (tbK_at c.1 3 rfl), tbK_at c.1 4 rfl, tbK_at c.1 5 rfl⟩
    m_Vault_has := ⟨He.eqO_ok (tbK_at c.1 6 rfl), tbK_at c.1 7 rfl, tbK_at c.1 8 rfl⟩
    m_Keeper_lay := ⟨He.eqO_ok (tbK_at c.1 9 rfl), tbK_at c.1 1 rfl, tbK_at c.1 2 rfl⟩
    m_Keeper_thing := ⟨He.eqO_ok (tbK_at c.1 10 rfl), tbK_at c.1 4 rfl, tbK_at c.1 5 rfl⟩
    m_Keeper_has := ⟨He.eqO_ok (tbK_at c.1 11 rfl), tbK_at c.1 7 rfl, tbK_at c.1 8 rfl⟩
    m_Keeper_things := ⟨He.eqO_ok (tbK_at c.1 12 rfl), tbK_at c.1 13 rfl, tbK_at c.1 14 rfl⟩
    m_Witness_lay := ⟨He.eqO_ok (tbK_at c.1 15 rfl), tbK_at c.1 1 rfl, tbK_at c.1 2 rfl⟩
    m_Witness_thing := ⟨He.eqO_ok (tbK_at c.1 16 rfl), tbK_at c.1 4 rfl, tbK_at c.1 5 rfl⟩
    m_Witness_has := ⟨He.eqO_ok (tbK_at c.1 17 rfl), tbK_at c.1 7 rfl, tbK_at c.1 8 rfl⟩
    m_Reader_lay := ⟨He.eqO_ok (tbK_at c.1 18 rfl), tbK_at c.1 19 rfl, tbK_at c.1 20 rfl⟩
    m_Reader_thing := ⟨He.eqO_ok (tbK_at c.1 21 rfl), tbK_at c.1 22 rfl, tbK_at c.1 23 rfl⟩
    m_Reader_has := ⟨He.eqO_ok (tbK_at c.1 24 rfl), tbK_at c.1 7 rfl, tbK_at c.1 8 rfl⟩
    m_Reader_paper := ⟨He.eqO_ok (tbK_at c.1 25 rfl), tbK_at c.1 26 rfl, tbK_at c.1 27 rfl⟩
    m_Find_answer := ⟨He.eqO_ok (tbK_at c.1 28 rfl), tbK_at c.1 29 rfl, tbK_at c.1 30 rfl⟩
    m_Stretch_answer := ⟨He.eqO_ok (tbK_at c.1 31 rfl), tbK_at c.1 32 rfl, tbK_at c.1 33 rfl⟩
    m_Count_answer := ⟨He.eqO_ok (tbK_at c.1 34 rfl), tbK_at c.1 35 rfl, tbK_at c.1 36 rfl⟩
    m_Nth_answer := ⟨He.eqO_ok (tbK_at c.1 37 rfl), tbK_at c.1 38 rfl, tbK_at c.1 39 rfl⟩
    m_Put_answer := ⟨He.eqO_ok (tbK_at c.1 40 rfl), tbK_at c.1 41 rfl, tbK_at c.1 42 rfl⟩
    m_Cut_answer := ⟨He.eqO_ok (tbK_at c.1 43 rfl), tbK_at c.1 44 rfl, tbK_at c.1 45 rfl⟩
    m_Also_answer := ⟨He.eqO_ok (tbK_at c.1 46 rfl), tbK_at c.1 47 rfl, tbK_at c.1 48 rfl⟩
    k_Keeper := ⟨tbK_at c.1 49 rfl, He.eqO_ok (tbK_at c.1 50 rfl), tbK_at c.1 51 rfl, tbK_at c.1 52 rfl⟩
    k_Reader := ⟨tbK_at c.1 53 rfl, He.eqO_ok (tbK_at c.1 54 rfl), tbK_at c.1 55 rfl, tbK_at c.1 56 rfl⟩
    k_Witness := ⟨tbK_at c.1 57 rfl, He.eqO_ok (tbK_at c.1 58 rfl), tbK_at c.1 59 rfl, tbK_at c.1 60 rfl⟩
    k_Find := ⟨tbK_at c.1 61 rfl, He.eqO_ok (tbK_at c.1 62 rfl), tbK_at c.1 63 rfl, tbK_at c.1 64 rfl⟩
    k_Stretch := ⟨tbK_at c.1 65 rfl, He.eqO_ok (tbK_at c.1 66 rfl), tbK_at c.1 67 rfl, tbK_at c.1 68 rfl⟩
    k_Count := ⟨tbK_at c.1 69 rfl, He.eqO_ok (tbK_at c.1 70 rfl), tbK_at c.1 71 rfl, tbK_at c.1 72 rfl⟩
    k_Nth := ⟨tbK_at c.1 73 rfl, He.eqO_ok (tbK_at c.1 74 rfl), tbK_at c.1 75 rfl, tbK_at c.1 76 rfl⟩
    k_Put := ⟨tbK_at c.1 77 rfl, He.eqO_ok (tbK_at c.1 78 rfl), tbK_at c.1 79 rfl, tbK_at c.1 80 rfl⟩
    k_Cut := ⟨tbK_at c.1 81 rfl, He.eqO_ok (tbK_at c.1 82 rfl), tbK_at c.1 83 rfl, tbK_at c.1 84 rfl⟩
    k_Also := ⟨tbK_at c.1 85 rfl, He.eqO_ok (tbK_at c.1 86 rfl), tbK_at c.1 87 rfl, tbK_at c.1 88 rfl⟩
    r_Vault := ⟨tbK_at c.1 89 rfl, He.eqO_ok (tbK_at c.1 90 rfl)⟩
    r_VaultError := ⟨tbK_at c.1 91 rfl, He.eqO_ok (tbK_at c.1 92 rfl)⟩
    v_Vault_init := fcB_ok (tbK_at c.1 93 rfl)
    v_Vault_lay := fcB_ok (tbK_at c.1 94 rfl)
    v_Vault_thing := fcB_ok (tbK_at c.1 95 rfl)
    v_VaultError_init := fcB_ok (tbK_at c.1 96 rfl)
    x_NoPaper := tbK_at c.1 97 rfl
    o_Clash := tbK_at c.1 98 rfl
    o_sa := He.eqO_ok (tbK_at c.1 99 rfl)
    o_in := He.eqO_ok (tbK_at c.1 100 rfl)
    o_ty := of_decide_eq_true (tbK_at c.1 101 rfl)
    o_ga := He.eqO_ok (tbK_at c.1 102 rfl)
    o_gg := He.noat_ok (c.2.fact 211 rfl)
    o_hd := tbK_at c.1 103 rfl
    e_NoPaper := of_decide_eq_true (tbK_at c.1 104 rfl)
    t_NoPaper := of_decide_eq_true (tbK_at c.1 105 rfl)
    e_Clash := of_decide_eq_true (tbK_at c.1 106 rfl)
    t_Clash := of_decide_eq_true (tbK_at c.1 107 rfl)
    y_cc := of_decide_eq_true (tbK_at c.1 108 rfl)
    y_nv := of_decide_eq_true (tbK_at c.1 109 rfl)
    p_g := He.eqO_ok (tbK_at c.1 110 rfl)
    p_k := He.noat_ok (c.2.fact 212 rfl)
    p_d := tbK_at c.1 111 rfl
    p_a := He.eqO_ok (tbK_at c.1 112 rfl)
    p_n := He.eqO_ok (tbK_at c.1 113 rfl)
    p_t := of_decide_eq_true (tbK_at c.1 114 rfl)
    p_m := of_decide_eq_true (tbK_at c.1 115 rfl)
    q_n := of_decide_eq_true (tbK_at c.1 116 rfl)
    q_v := of_decide_eq_true (tbK_at c.1 117 rfl)
    q_9 := of_decide_eq_true (tbK_at c.1 118 rfl)
    q_5 := of_decide_eq_true (tbK_at c.1 119 rfl) }
end Wk
set_option Elab.async false
set_option linter.all false
set_option maxRecDepth 100000
set_option maxHeartbeats 0
namespace Wk
open PySem PySem.W PySem.Spec PyProof.Rows L2
def loose0 : List PySem.Str := [(Str.ofString "VaultError"), (Str.ofString "NoThing"), (Str.ofString "NoPaper"), (Str.ofString "BadThing"), (Str.ofString "Clash"), (Str.ofString "NotOn"), (Str.ofString "NoState"), (Str.ofString "NoName"), (Str.ofString "NoTable"), (Str.ofString "NoColumn"), (Str.ofString "NoRow"), (Str.ofString "NoQuestion"), (Str.ofString "NoPlan"), (Str.ofString "NoStep"), (Str.ofString "NotSo"), (Str.ofString "NoCommand"), (Str.ofString "MOST_SEAL"), (Str.ofString "BASE"), (Str.ofString "BEGIN"), (Str.ofString "HALF"), (Str.ofString "LEAST"), (Str.ofString "text_codes"), (Str.ofString "codes_of"), (Str.ofString "seal"), (Str.ofString "MOST_NUMBER"), (Str.ofString "MOST_SIGNS"), (Str.ofString "MOST_THINGS"), (Str.ofString "DEEPEST"), (Str.ofString "is_number"), (Str.ofString "is_text"), (Str.ofString "is_within"), (Str.ofString "is_within_things"), (Str.ofString "is_thing"), (Str.ofString "kind_of"), (Str.ofString "side_of"), (Str.ofString "ahead"), (Str.ofString "Vault"), (Str.ofString "Keeper"), (Str.ofString "Reader"), (Str.ofString "Witness")]
def loose1 : List PySem.Str := [(Str.ofString "answer_with_paper"), (Str.ofString "checked"), (Str.ofString "MOST_NODES"), (Str.ofString "is_whole"), (Str.ofString "is_node"), (Str.ofString "node_at"), (Str.ofString "node_beneath"), (Str.ofString "size"), (Str.ofString "size_beneath"), (Str.ofString "rank"), (Str.ofString "above"), (Str.ofString "UNBOUND"), (Str.ofString "found"), (Str.ofString "goes_left"), (Str.ofString "goes_right"), (Str.ofString "is_within_trees"), (Str.ofString "need_counted"), (Str.ofString "is_empty"), (Str.ofString "stretch"), (Str.ofString "ahead_of"), (Str.ofString "counted"), (Str.ofString "nth"), (Str.ofString "part"), (Str.ofString "joined"), (Str.ofString "rebuilt"), (Str.ofString "put"), (Str.ofString "cut"), (Str.ofString "Ask"), (Str.ofString "Find"), (Str.ofString "Stretch"), (Str.ofString "Count"), (Str.ofString "Nth"), (Str.ofString "Put"), (Str.ofString "Cut"), (Str.ofString "Also"), (Str.ofString "_law_row"), (Str.ofString "_law_take"), (Str.ofString "_law_text"), (Str.ofString "_law_thing"), (Str.ofString "_law_first")]
def loose2 : List PySem.Str := [(Str.ofString "_law_some"), (Str.ofString "_law_sorted"), (Str.ofString "_law_grown"), (Str.ofString "_law_within"), (Str.ofString "_law_key"), (Str.ofString "_law_ask"), (Str.ofString "_law_lacks"), (Str.ofString "_law_copy"), (Str.ofString "_law_paper_right"), (Str.ofString "_law_others"), (Str.ofString "_law_own"), (Str.ofString "_law_right"), (Str.ofString "_law_held")]
def loose : List PySem.Str := loose0 ++ loose1 ++ loose2
abbrev R : PySem.W.OpenRow := PySem.W.OpenLaw.row PySem.Challenge.rw_papervault_k42_papers_checked
noncomputable def endR (w : World) (os : OsState) : Option PySem.W.SharedT := HandSHeadRun.endF (HandSHeadRun.stepQ (HandSHeadRun.denQ HandSHeadRun.tabQ) R.prog w) 12000 R.prog w os
def obL (s : PySem.W.SharedT) : AlL := obsL (HandSHeadRun.getT s)
theorem obL_eq (s : PySem.W.SharedT) : obL s = hookL.obs s.abs := obsL_eq (HandSHeadRun.getT_eq s)
end Wk
set_option Elab.async false
set_option linter.all false
set_option maxRecDepth 100000
set_option maxHeartbeats 0
namespace Wk
open PySem PySem.W PySem.Spec PyProof.Rows L2
theorem run_looks (w : World) (os : OsState) : ((endR w os).map fun s => HandSHeadRun.looksF R.prog (boot_heap w.params) s.abs) = some true := by
  kernel_rfl
end Wk
set_option Elab.async false
set_option linter.all false
set_option maxRecDepth 100000
set_option maxHeartbeats 0
namespace Wk
open PySem PySem.W PySem.Spec PyProof.Rows L2
theorem run_seen (w : World) (os : OsState) : ((endR w os).map fun s => HandSHeadRun.seenQ (PySem.W.view R.prog [103]) loose (importedModules R.prog.main.body) (fun s => PySem.W.xlAt (PySem.W.view R.prog [103]) [] s && PySem.W.recOk R.toRowW.records s) s.abs) = some (PySem.W.openGood (PySem.W.view R.prog [103]) loose) := by
  kernel_rfl
end Wk
set_option Elab.async false
set_option linter.all false
set_option maxRecDepth 100000
set_option maxHeartbeats 0
namespace Wk
open PySem PySem.W PySem.Spec PyProof.Rows L2
theorem run_facts (w : World) (os : OsState) : ((endR w os).map fun s => obL s) = some valL := by
  kernel_rfl
end Wk
set_option Elab.async false
set_option linter.all false
set_option maxRecDepth 100000
set_option maxHeartbeats 0
/-! The end. -/
namespace Wk
open PySem PySem.W PySem.Spec PyProof.Rows L2
theorem run_all (w : World) : HandSHeadRun.RunEq R (PySem.W.view R.prog [103]) hookL obL 12000 loose w := by
  intro os
  have a := run_looks w os
  have b := run_seen w os
  have c := run_facts w os
  show (endR w os).map _ = _
  cases e : endR w os with
  | none => rw [e] at a; cases a
  | some s =>
    rw [e] at a b c
    exact congrArg some (Prod.ext (Option.some.inj a) (Prod.ext (Option.some.inj b) (Option.some.inj c)))
theorem facts {P : Program} {w : World} {K : PySem.W.Frag} {h : Heap} {mg : Str → Option Value} {f : Addr} (X : K.In h) (G : h.Ns mainGlobals mg) (hfa : mg ("law" : Str) = some (.ref f)) (c : tbK K = true ∧ He.SaysD fa dd K) :
    ∃ fd : FuncData, (∀ (s : Shared) (v : Value), BindsTo s fd ⟨[v], []⟩ [("script", v)]) ∧ ∀ base : Heap, K.In base → base.Ns mainGlobals mg → FnOk P w K mg base CX0 19 f fd ["script"] (spLaw K) := by
  have T : Tx K mg := tx_of X G c
  obtain ⟨fd, F⟩ := T.d_law
  have e := hfa.symm.trans T.b_law.g
  cases e
  have b := FunD.bindsA (ps := ["script"]) F fun _ _ _ _ _ _ us hl => match us, hl with | [_], _ => rfl
  exact ⟨fd, fun s v => b s [v] rfl, fun base _ _ => fo_law T F⟩
end Wk
open PySem PySem.W PySem.Calls PyProof.Rows
theorem PySem.Challenge.cw_papervault_k42_papers_checked_holds : PySem.Challenge.rw_papervault_k42_papers_checked.Holds := by
  w_on; o_law
  refine HandSHeadRun.head_any (r := OpenLaw.row PySem.Challenge.rw_papervault_k42_papers_checked) (q := view (OpenLaw.row PySem.Challenge.rw_papervault_k42_papers_checked).prog [103]) (H := Wk.hookL) (ob := Wk.obL) (M := 12000) (loose := Wk.loose) (d := HandSHeadRun.topDef (OpenLaw.row PySem.Challenge.rw_papervault_k42_papers_checked).prog 103) (kwd := []) Wk.obL_eq
    (by kernel_rfl) (fun s => by kernel_rfl) Wk.run_all (by kernel_rfl) (by kernel_rfl) (by kernel_rfl) (by rfl) (by first | assumption | decide +kernel) (by decide +kernel) ⟨rfl, rfl, rfl, rfl, rfl, by decide +kernel⟩ ?hw ?hc
  case hw => w_witness2
  case hc =>
    refine L2.walk_ofE (l := PySem.Challenge.rw_papervault_k42_papers_checked) (n := 63) (k := 19) (x := "script") (CX := L2.CX0) rfl (by decide) (by kernel_rfl) ⟨rfl, by decide, by decide⟩ ?F (fun _ _ _ _ z => z)
    intro w mg fa h Y G hmg0
    obtain ⟨K, KX, c⟩ := Y
    have hmg : mg ("law" : PySem.Str) = some (.ref fa) := by
      have e : (HandSHeadRun.topDef (OpenLaw.row PySem.Challenge.rw_papervault_k42_papers_checked).prog 103).name = ("law" : PySem.Str) := by kernel_rfl
      rw [← e]
      exact hmg0
    obtain ⟨fd, hb, hF⟩ := Wk.facts (P := (PySem.Challenge.rw_papervault_k42_papers_checked).prog) (w := w) KX G hmg c
    exact ⟨K, fd, Wk.spLaw K, KX, hb, fun H a ns hl _ hS => ⟨a, ns, rfl, hS, fun _ => rfl⟩, hF⟩
