import PyProof.Rows.All
import Wide.All
import OpenK.AllK
import Wide.FinOn
import HandS.ForMost
import PySem.Challenge.RW_edgelink_k43_talks
import PyProof.EnumMake
import PyProof.Draws
import PyProof.StrOps2
import KE.KRevSl
import HandS.Exc
import HandS.ExcSuper
import HandS.TryOnly
import HandS.ExcOwn
import HandS.WordsExc
import KE.KExcSuper
import HandS.Flow
import HandS.Conv
section
set_option autoImplicit false
/-! Bits, check bits, bursts: plain Lean, no program in sight. -/
namespace Tk
abbrev Bits := List Bool

def xorB (a b : Bits) : Bits := List.zipWith (fun x y => x != y) a b
theorem xorB_length {a b : Bits} (h : a.length = b.length) : (xorB a b).length = a.length := by
  unfold xorB
  rw [List.length_zipWith, h, Nat.min_self]
def zer (n : Nat) : Bits := List.replicate n false
theorem zer_length (n : Nat) : (zer n).length = n := List.length_replicate
theorem zer_succ (n : Nat) : zer (n + 1) = false :: zer n := rfl
theorem xorB_cons (x y : Bool) (a b : Bits) : xorB (x :: a) (y :: b) = (x != y) :: xorB a b := rfl
theorem xorB_nil : xorB [] [] = [] := rfl
theorem xorB_append {a b c d : Bits} (h : a.length = b.length) : xorB (a ++ c) (b ++ d) = xorB a b ++ xorB c d := by
  unfold xorB
  exact List.zipWith_append h
theorem xorB_zer : ∀ a : Bits, xorB a (zer a.length) = a
  | [] => rfl
  | x :: a => by
    show (x != false) :: xorB a (zer a.length) = x :: a
    rw [xorB_zer a]
    cases x <;> rfl
theorem zer_xorB : ∀ a : Bits, xorB (zer a.length) a = a
  | [] => rfl
  | x :: a => by
    show (false != x) :: xorB (zer a.length) a = x :: a
    rw [zer_xorB a]
    cases x <;> rfl
theorem xorB_self : ∀ a : Bits, xorB a a = zer a.length
  | [] => rfl
  | x :: a => by
    show (x != x) :: xorB a a = false :: zer a.length
    rw [xorB_self a]
    cases x <;> rfl
theorem xorB_cancel : ∀ {a b : Bits}, a.length = b.length → xorB a b = zer a.length → a = b
  | [], [], _, _ => rfl
  | x :: a, y :: b, h, e => by
    rw [xorB_cons] at e
    injection e with e1 e2
    have h' : a.length = b.length := by simpa using h
    rw [xorB_cancel h' e2]
    cases x <;> cases y <;> first | rfl | cases e1
  | [], _ :: _, h, _ => by simp at h
  | _ :: _, [], h, _ => by simp at h

/-- t added at the head of r -/
def addHead : Bits → Bits → Bits
  | r, [] => r
  | [], _ :: _ => []
  | a :: r, b :: t => (a != b) :: addHead r t
theorem addHead_length : ∀ (r t : Bits), (addHead r t).length = r.length
  | r, [] => by cases r <;> rfl
  | [], _ :: _ => rfl
  | a :: r, b :: t => by
    show (addHead r t).length + 1 = r.length + 1
    rw [addHead_length r t]
theorem addHead_xor : ∀ (x y t : Bits), x.length = y.length → addHead (xorB x y) t = xorB (addHead x t) y
  | x, y, [], _ => by cases x <;> cases y <;> rfl
  | [], [], _ :: _, _ => rfl
  | a :: x, b :: y, c :: t, h => by
    have h' : x.length = y.length := by simpa using h
    show ((a != b) != c) :: addHead (xorB x y) t = ((a != c) != b) :: xorB (addHead x t) y
    rw [addHead_xor x y t h']
    cases a <;> cases b <;> cases c <;> rfl
  | [], _ :: _, _ :: _, h => by simp at h
  | _ :: _, [], _ :: _, h => by simp at h
theorem addHead_eq : ∀ (r t : Bits), t.length ≤ r.length → addHead r t = xorB (r.take t.length) t ++ r.drop t.length
  | r, [], _ => by cases r <;> rfl
  | [], _ :: _, h => by simp at h
  | a :: r, b :: t, h => by
    have h' : t.length ≤ r.length := by simpa using h
    show (a != b) :: addHead r t = (a != b) :: (xorB (r.take t.length) t ++ r.drop t.length)
    rw [addHead_eq r t h']
theorem addHead_far : ∀ (r t : Bits) (i : Nat), t.length ≤ i → (addHead r t)[i]? = r[i]?
  | r, [], i, _ => by cases r <;> rfl
  | [], _ :: _, i, _ => rfl
  | a :: r, b :: t, 0, h => by simp at h
  | a :: r, b :: t, i + 1, h => by
    show (addHead r t)[i]? = r[i]?
    exact addHead_far r t i (by simpa using h)
theorem addHead_zer : ∀ {r t : Bits}, t.length ≤ r.length → (∀ x ∈ addHead r t, x = false) → r.take t.length = t
  | r, [], _, _ => by simp
  | [], _ :: _, h, _ => by simp at h
  | a :: r, b :: t, h, z => by
    have h' : t.length ≤ r.length := by simpa using h
    have z1 : (a != b) = false := z _ (List.mem_cons_self ..)
    have z2 : ∀ x ∈ addHead r t, x = false := fun x hx => z x (List.mem_cons_of_mem _ hx)
    show a :: r.take t.length = b :: t
    rw [addHead_zer h' z2]
    cases a <;> cases b <;> first | rfl | cases z1

/-- the division: k leading bits are taken away; t is the generator without its first bit -/
def rem (t : Bits) : Nat → Bits → Bits
  | 0, r => r
  | _ + 1, [] => []
  | k + 1, b :: r => rem t k (if b then addHead r t else r)
theorem rem_length (t : Bits) : ∀ (k : Nat) (r : Bits), (rem t k r).length = r.length - k
  | 0, r => by simp [rem]
  | k + 1, [] => by simp [rem]
  | k + 1, b :: r => by
    show (rem t k (if b then addHead r t else r)).length = _
    rw [rem_length t k]
    cases b
    · simp
    · simp [addHead_length]
theorem rem_xor (t : Bits) : ∀ (k : Nat) (x y : Bits), x.length = y.length → rem t k (xorB x y) = xorB (rem t k x) (rem t k y)
  | 0, _, _, _ => rfl
  | k + 1, [], [], _ => rfl
  | k + 1, a :: x, b :: y, h => by
    have h' : x.length = y.length := by simpa using h
    show rem t k (if (a != b) then addHead (xorB x y) t else xorB x y) = xorB (rem t k (if a then addHead x t else x)) (rem t k (if b then addHead y t else y))
    have c1 : xorB (addHead x t) y = xorB x (addHead y t) := by
      rw [← addHead_xor x y t h']
      have cm : ∀ a b : Bits, xorB a b = xorB b a := fun a b => by
        unfold xorB
        rw [List.zipWith_comm]
        congr 1
        funext p q
        cases p <;> cases q <;> rfl
      rw [cm x y, addHead_xor y x t h'.symm, cm]
    have c2 : xorB (addHead x t) (addHead y t) = xorB x y := by
      have := addHead_xor x (addHead y t) t (by rw [addHead_length, h'])
      rw [← this, ← c1, ← addHead_xor x y t h']
      generalize xorB x y = z
      clear this c1 h h'
      induction z generalizing t with
      | nil => cases t <;> rfl
      | cons a z ih =>
        cases t with
        | nil => rfl
        | cons c t =>
          show ((a != c) != c) :: addHead (addHead z t) t = a :: z
          rw [ih t]
          cases a <;> cases c <;> rfl
    cases a <;> cases b
    · exact rem_xor t k x y h'
    · have e := rem_xor t k x (addHead y t) (by rw [addHead_length, h'])
      rw [← c1, ← addHead_xor x y t h'] at e
      exact e
    · have e := rem_xor t k (addHead x t) y (by rw [addHead_length, h'])
      rw [← addHead_xor x y t h'] at e
      exact e
    · have e := rem_xor t k (addHead x t) (addHead y t) (by rw [addHead_length, addHead_length, h'])
      rw [c2] at e
      exact e
  | _ + 1, [], _ :: _, h => by simp at h
  | _ + 1, _ :: _, [], h => by simp at h
theorem rem_pad (t : Bits) : ∀ (k : Nat) (r : Bits), rem t k (zer k ++ r) = r
  | 0, _ => rfl
  | k + 1, r => by
    show rem t k (zer k ++ r) = r
    exact rem_pad t k r

/-- what a nonzero multiple looks like -/
theorem rem_far {t : Bits} (ht : t.getLast? = some true) : ∀ (k : Nat) (r : Bits), r.length = k + t.length → (∀ x ∈ rem t k r, x = false) →
    (∀ x ∈ r, x = false) ∨ ∃ f l, r[f]? = some true ∧ r[l]? = some true ∧ f + t.length ≤ l
  | 0, r, _, z => .inl z
  | k + 1, [], h, _ => by
    rw [List.length_nil] at h
    omega
  | k + 1, b :: r, h, z => by
    have h' : r.length = k + t.length := by
      rw [List.length_cons] at h
      omega
    have dpos : 0 < t.length := by
      cases t with
      | nil => cases ht
      | cons _ _ => simp
    cases b with
    | false =>
      rcases rem_far ht k r h' z with q | ⟨f, l, h1, h2, h3⟩
      · exact .inl fun x hx => by
          rcases List.mem_cons.mp hx with e | hx
          · exact e
          · exact q x hx
      · exact .inr ⟨f + 1, l + 1, by simpa using h1, by simpa using h2, by omega⟩
    | true =>
      refine .inr ?_
      rcases rem_far ht k (addHead r t) (by rw [addHead_length, h']) z with q | ⟨f, l, h1, h2, h3⟩
      · have e := addHead_zer (by omega) q
        refine ⟨0, t.length, rfl, ?_, by omega⟩
        obtain ⟨n, en⟩ : ∃ n, t.length = n + 1 := ⟨t.length - 1, by omega⟩
        rw [en]
        show r[n]? = some true
        have e1 : (r.take t.length)[n]? = r[n]? := List.getElem?_take_of_lt (by omega)
        rw [← e1, e]
        rw [List.getLast?_eq_getElem?, en] at ht
        exact ht
      · refine ⟨0, l + 1, rfl, ?_, by omega⟩
        show r[l]? = some true
        rw [← addHead_far r t l (by omega)]
        exact h2

/-! ### the program's functions -/
/-- a generator: its first and last bits are ones, 2 to 9 bits -/
structure Gen (g : Bits) : Prop where
  head : g.head? = some true
  last : g.getLast? = some true
  lo : 2 ≤ g.length
  hi : g.length ≤ 9
/-- one step of the division as the program does it -/
def remStep (g rest : Bits) (i : Nat) : Bits :=
  if rest[i]? = some true then rest.take i ++ (xorB ((rest.drop i).take g.length) g ++ rest.drop (i + g.length)) else rest
def remainder (g bits : Bits) : Bits :=
  ((List.range (bits.length + 1 - g.length)).foldl (remStep g) bits).drop (bits.length + 1 - g.length)
def checkBits (g bits : Bits) : Bits := remainder g (bits ++ zer (g.length - 1))
def isIntact (g bits : Bits) : Bool :=
  if bits.length < g.length - 1 then false else checkBits g (bits.take (bits.length - (g.length - 1))) == bits.drop (bits.length - (g.length - 1))

theorem remStep_pad {g : Bits} (hg : Gen g) (i : Nat) (r : Bits) (h : g.length ≤ r.length) :
    remStep g (zer i ++ r) i = zer i ++ (match r with | [] => [] | b :: r' => false :: (if b then addHead r' g.tail else r')) := by
  cases r with
  | nil =>
    have := hg.lo
    rw [List.length_nil] at h
    omega
  | cons b r' =>
    have e0 : (zer i ++ b :: r')[i]? = some b := by
      rw [List.getElem?_append_right (by rw [zer_length]; exact Nat.le_refl _), zer_length, Nat.sub_self]
      rfl
    unfold remStep
    rw [e0]
    cases b with
    | false => rw [if_neg (by decide)]; rfl
    | true =>
      rw [if_pos rfl]
      have e1 : (zer i ++ true :: r').take i = zer i := by
        have := List.take_left (l₁ := zer i) (l₂ := true :: r')
        rwa [zer_length] at this
      have e2 : (zer i ++ true :: r').drop i = true :: r' := by
        have := List.drop_left (l₁ := zer i) (l₂ := true :: r')
        rwa [zer_length] at this
      have e3 : (zer i ++ true :: r').drop (i + g.length) = (true :: r').drop g.length := by
        rw [← List.drop_drop, e2]
      rw [e1, e2, e3]
      obtain ⟨t, rfl⟩ : ∃ t, g = true :: t := by
        cases g with
        | nil => have := hg.lo; simp at this
        | cons a t => have := hg.head; simp at this; exact ⟨t, by rw [this]⟩
      have hl : t.length ≤ r'.length := by simpa using h
      show zer i ++ (xorB (true :: r'.take t.length) (true :: t) ++ r'.drop t.length) = zer i ++ (false :: addHead r' t)
      rw [addHead_eq r' t hl]
      rfl
theorem fold_rem {g : Bits} (hg : Gen g) : ∀ (k i : Nat) (r : Bits), r.length = k + (g.length - 1) →
    ((List.range' i k).foldl (remStep g) (zer i ++ r)) = zer (i + k) ++ rem g.tail k r
  | 0, i, r, _ => by simp [rem]
  | k + 1, i, r, h => by
    rw [List.range'_succ, List.foldl_cons]
    have hlo := hg.lo
    cases r with
    | nil =>
      rw [List.length_nil] at h
      omega
    | cons b r' =>
      rw [remStep_pad hg i (b :: r') (by omega)]
      show (List.range' (i + 1) k).foldl (remStep g) (zer i ++ false :: (if b then addHead r' g.tail else r')) = zer (i + (k + 1)) ++ rem g.tail k (if b then addHead r' g.tail else r')
      have e : zer i ++ false :: (if b then addHead r' g.tail else r') = zer (i + 1) ++ (if b then addHead r' g.tail else r') := by
        have : zer (i + 1) = zer i ++ [false] := by
          unfold zer
          rw [List.replicate_succ']
        rw [this, List.append_assoc]
        rfl
      rw [e, fold_rem hg k (i + 1)]
      · have : i + 1 + k = i + (k + 1) := by omega
        rw [this]
      · rw [List.length_cons] at h
        cases b
        · simp; omega
        · simp [addHead_length]; omega
theorem remainder_eq {g : Bits} (hg : Gen g) {bits : Bits} (h : g.length - 1 ≤ bits.length) : remainder g bits = rem g.tail (bits.length - (g.length - 1)) bits := by
  have hlo := hg.lo
  unfold remainder
  have e : bits.length + 1 - g.length = bits.length - (g.length - 1) := by omega
  rw [e, List.range_eq_range']
  have f := fold_rem hg (bits.length - (g.length - 1)) 0 bits (by omega)
  rw [Nat.zero_add] at f
  have z0 : zer 0 ++ bits = bits := rfl
  rw [z0] at f
  rw [f]
  have := List.drop_left (l₁ := zer (bits.length - (g.length - 1))) (l₂ := rem g.tail (bits.length - (g.length - 1)) bits)
  rwa [zer_length] at this
theorem checkBits_length {g : Bits} (hg : Gen g) (m : Bits) : (checkBits g m).length = g.length - 1 := by
  unfold checkBits
  rw [remainder_eq hg (by rw [List.length_append, zer_length]; omega), rem_length]
  rw [List.length_append, zer_length]
  omega
theorem remStep_length (g rest : Bits) (i : Nat) (h : i + g.length ≤ rest.length) : (remStep g rest i).length = rest.length := by
  unfold remStep
  split
  · rw [List.length_append, List.length_append, xorB_length, List.length_take, List.length_take, List.length_drop, List.length_drop]
    · omega
    · rw [List.length_take, List.length_drop]; omega
  · rfl
theorem fold_length (g bits : Bits) (hg : g.length ≤ bits.length + 1) : ∀ k : Nat, k ≤ bits.length + 1 - g.length → ((List.range k).foldl (remStep g) bits).length = bits.length
  | 0, _ => rfl
  | k + 1, hk => by
    have ih := fold_length g bits hg k (by omega)
    rw [List.range_succ, List.foldl_append, List.foldl_cons, List.foldl_nil, remStep_length _ _ _ (by rw [ih]; omega)]
    exact ih
theorem intact_pack {g : Bits} (hg : Gen g) (m : Bits) : isIntact g (m ++ checkBits g m) = true := by
  have hl := checkBits_length hg m
  unfold isIntact
  rw [List.length_append, hl, if_neg (by omega)]
  have e : m.length + (g.length - 1) - (g.length - 1) = m.length := by omega
  rw [e, List.take_left, List.drop_left]
  exact beq_self_eq_true _
theorem intact_iff {g : Bits} (hg : Gen g) {b : Bits} (h : g.length - 1 ≤ b.length) :
    isIntact g b = true ↔ rem g.tail (b.length - (g.length - 1)) b = zer (g.length - 1) := by
  unfold isIntact
  rw [if_neg (by omega)]
  generalize hk : b.length - (g.length - 1) = k
  have hm : (b.take k).length = k := by rw [List.length_take]; omega
  have hc : (b.drop k).length = g.length - 1 := by rw [List.length_drop]; omega
  have eb : b = xorB (b.take k ++ zer (g.length - 1)) (zer k ++ b.drop k) := by
    rw [xorB_append (by rw [hm, zer_length])]
    have e1 : xorB (b.take k) (zer k) = b.take k := by
      have := xorB_zer (b.take k)
      rwa [hm] at this
    have e2 : xorB (zer (g.length - 1)) (b.drop k) = b.drop k := by
      have := zer_xorB (b.drop k)
      rwa [hc] at this
    rw [e1, e2, List.take_append_drop]
  have er : rem g.tail k b = xorB (checkBits g (b.take k)) (b.drop k) := by
    conv => lhs; rw [eb]
    rw [rem_xor _ _ _ _ (by rw [List.length_append, List.length_append, zer_length, zer_length, hm, hc]), rem_pad]
    unfold checkBits
    rw [remainder_eq hg (by rw [List.length_append, zer_length]; omega)]
    have : (b.take k ++ zer (g.length - 1)).length - (g.length - 1) = k := by
      rw [List.length_append, zer_length, hm]; omega
    rw [this]
  rw [er]
  have hl := checkBits_length hg (b.take k)
  constructor
  · intro q
    have q' : checkBits g (b.take k) = b.drop k := eq_of_beq q
    rw [q', xorB_self, hc]
  · intro q
    have q' := xorB_cancel (a := checkBits g (b.take k)) (b := b.drop k) (by rw [hl, hc]) (by rw [hl]; exact q)
    rw [q']
    exact beq_self_eq_true _

/-- a payload damaged by a pattern from a bit on -/
def damaged (b : Bits) (f : Nat) (p : Bits) : Bits := b.take f ++ (xorB ((b.drop f).take p.length) p ++ b.drop (f + p.length))
theorem damaged_eq {b : Bits} {f : Nat} {p : Bits} (h : f + p.length ≤ b.length) : damaged b f p = xorB b (zer f ++ (p ++ zer (b.length - (f + p.length)))) := by
  have e : b = b.take f ++ ((b.drop f).take p.length ++ b.drop (f + p.length)) := by
    conv => lhs; rw [← List.take_append_drop f b, ← List.take_append_drop p.length (b.drop f), List.drop_drop]
  unfold damaged
  conv => rhs; lhs; rw [e]
  have l1 : (b.take f).length = f := by rw [List.length_take]; omega
  have l2 : ((b.drop f).take p.length).length = p.length := by rw [List.length_take, List.length_drop]; omega
  have l3 : (b.drop (f + p.length)).length = b.length - (f + p.length) := by rw [List.length_drop]
  rw [xorB_append (by rw [l1, zer_length]), xorB_append l2]
  have e1 := xorB_zer (b.take f)
  rw [l1] at e1
  have e3 := xorB_zer (b.drop (f + p.length))
  rw [l3] at e3
  rw [e1, e3]
theorem damaged_length {b : Bits} {f : Nat} {p : Bits} (h : f + p.length ≤ b.length) : (damaged b f p).length = b.length := by
  rw [damaged_eq h, xorB_length]
  rw [List.length_append, List.length_append, zer_length, zer_length]
  omega
/-- DAMAGE IS FOUND, or nothing was changed -/
theorem damaged_found {g b p : Bits} {f : Nat} (hg : Gen g) (hb : isIntact g b = true) (hp : p.length < g.length) (h : f + p.length ≤ b.length) :
    damaged b f p = b ∨ isIntact g (damaged b f p) = false := by
  cases q : isIntact g (damaged b f p) with
  | false => exact .inr rfl
  | true =>
    left
    have hlo := hg.lo
    have hlen : g.length - 1 ≤ b.length := by
      unfold isIntact at hb
      by_cases c : b.length < g.length - 1
      · rw [if_pos c] at hb; cases hb
      · omega
    have dl := damaged_length h
    have r1 := (intact_iff hg hlen).mp hb
    have r2 := (intact_iff hg (b := damaged b f p) (by rw [dl]; exact hlen)).mp q
    rw [dl, damaged_eq h, rem_xor _ _ _ _ (by rw [List.length_append, List.length_append, zer_length, zer_length]; omega), r1] at r2
    generalize he : zer f ++ (p ++ zer (b.length - (f + p.length))) = e at r2
    have le : e.length = b.length := by
      rw [← he, List.length_append, List.length_append, zer_length, zer_length]; omega
    have tl : g.tail.length = g.length - 1 := List.length_tail
    have lr : (rem g.tail (b.length - (g.length - 1)) e).length = g.length - 1 := by rw [rem_length, le]; omega
    have r3 := zer_xorB (rem g.tail (b.length - (g.length - 1)) e)
    rw [lr, r2] at r3
    have ht : g.tail.getLast? = some true := by
      have h1 := hg.last
      cases g with
      | nil => simp at hlo
      | cons a t =>
        cases t with
        | nil => simp at hlo
        | cons b t => simpa using h1
    have key := rem_far ht (b.length - (g.length - 1)) e (by rw [le, tl]; omega) (by
      rw [← r3]
      intro x hx
      exact (List.mem_replicate.mp hx).2)
    have at_ : ∀ i, e[i]? = some true → f ≤ i ∧ i < f + p.length := fun i hi => by
      rw [← he] at hi
      by_cases c : i < f
      · rw [List.getElem?_append_left (by rw [zer_length]; exact c)] at hi
        have := List.mem_of_getElem? hi
        have := (List.mem_replicate.mp this).2
        cases this
      · rw [List.getElem?_append_right (by rw [zer_length]; omega), zer_length] at hi
        by_cases c2 : i - f < p.length
        · omega
        · rw [List.getElem?_append_right (by omega)] at hi
          have := List.mem_of_getElem? hi
          have := (List.mem_replicate.mp this).2
          cases this
    rcases key with z | ⟨i, j, h1, h2, h3⟩
    · have ez : e = zer b.length := by
        rw [← le]
        exact List.eq_replicate_of_mem fun x hx => z x hx
      rw [damaged_eq h, he, ez]
      exact xorB_zer b
    · have a1 := at_ i h1
      have a2 := at_ j h2
      rw [tl] at h3
      omega
end Tk
end

section
set_option autoImplicit false
/-! Bytes, packed bytes: plain Lean. -/
namespace Tk
def bitsN : Nat → Nat → Bits
  | 0, _ => []
  | k + 1, n => bitsN k n ++ [decide (n / 2 ^ k % 2 = 1)]
def byteBits (n : Nat) : Bits := bitsN 8 n
def bitsOf (ns : List Nat) : Bits := (ns.map byteBits).flatten
def bitStep (n : Nat) (x : Bool) : Nat := 2 * n + (if x then 1 else 0)
def byteOf (b : Bits) : Nat := b.reverse.foldl bitStep 0
def bytesOf (b : Bits) : Option (List Nat) :=
  if b.length % 8 = 0 then some ((List.range (b.length / 8)).map fun i => byteOf ((b.drop (8 * i)).take 8)) else none
def pack (g : Bits) (ns : List Nat) : Bits := bitsOf ns ++ checkBits g (bitsOf ns)
def unpack (g b : Bits) : Option (List Nat) := if isIntact g b = true then bytesOf (b.take (b.length - (g.length - 1))) else none

theorem bitsN_length : ∀ (k n : Nat), (bitsN k n).length = k
  | 0, _ => rfl
  | k + 1, n => by
    show (bitsN k n ++ [_]).length = k + 1
    rw [List.length_append, bitsN_length k n]
    rfl
theorem byteBits_length (n : Nat) : (byteBits n).length = 8 := bitsN_length 8 n
theorem bitsOf_length : ∀ ns : List Nat, (bitsOf ns).length = 8 * ns.length
  | [] => rfl
  | n :: ns => by
    show (byteBits n ++ bitsOf ns).length = 8 * (ns.length + 1)
    rw [List.length_append, byteBits_length, bitsOf_length ns]
    omega
theorem fold_bits : ∀ (b : Bits) (a : Nat), b.reverse.foldl bitStep a = a * 2 ^ b.length + b.reverse.foldl bitStep 0
  | [], a => by simp
  | x :: b, a => by
    rw [List.reverse_cons, List.foldl_append, List.foldl_append]
    show bitStep (b.reverse.foldl bitStep a) x = _ + bitStep (b.reverse.foldl bitStep 0) x
    rw [fold_bits b a]
    unfold bitStep
    rw [List.length_cons, Nat.pow_succ]
    generalize 2 ^ b.length = q
    have e : a * (q * 2) = 2 * (a * q) := by rw [← Nat.mul_assoc, Nat.mul_comm]
    rw [e]
    omega
theorem byteOf_snoc (b : Bits) (x : Bool) : byteOf (b ++ [x]) = byteOf b + 2 ^ b.length * (if x then 1 else 0) := by
  unfold byteOf
  rw [List.reverse_append]
  show b.reverse.foldl bitStep (bitStep 0 x) = _
  rw [fold_bits]
  unfold bitStep
  cases x <;> simp <;> omega
theorem byteOf_bitsN : ∀ (k n : Nat), byteOf (bitsN k n) = n % 2 ^ k
  | 0, n => by simp [bitsN, byteOf, Nat.mod_one]
  | k + 1, n => by
    show byteOf (bitsN k n ++ [decide (n / 2 ^ k % 2 = 1)]) = _
    rw [byteOf_snoc, byteOf_bitsN k n, bitsN_length, Nat.mod_pow_succ]
    have h2 : n / 2 ^ k % 2 < 2 := Nat.mod_lt _ (by decide)
    by_cases c : n / 2 ^ k % 2 = 1
    · rw [c]; simp
    · have c0 : n / 2 ^ k % 2 = 0 := by omega
      rw [c0]; simp
theorem byteOf_byteBits {n : Nat} (h : n < 256) : byteOf (byteBits n) = n := by
  unfold byteBits
  rw [byteOf_bitsN]
  exact Nat.mod_eq_of_lt h
theorem chunks_bitsOf : ∀ ns : List Nat, (∀ x ∈ ns, x < 256) → ((List.range ns.length).map fun i => byteOf (((bitsOf ns).drop (8 * i)).take 8)) = ns
  | [], _ => rfl
  | n :: ns, h => by
    have ih := chunks_bitsOf ns fun x hx => h x (List.mem_cons_of_mem _ hx)
    have hn : n < 256 := h n (List.mem_cons_self ..)
    rw [List.length_cons, List.range_succ_eq_map, List.map_cons, List.map_map]
    have e0 : byteOf (((bitsOf (n :: ns)).drop (8 * 0)).take 8) = n := by
      show byteOf ((byteBits n ++ bitsOf ns).take 8) = n
      have : (byteBits n ++ bitsOf ns).take (byteBits n).length = byteBits n := List.take_left
      rw [byteBits_length] at this
      rw [this, byteOf_byteBits hn]
    rw [e0]
    refine congrArg (n :: ·) ?_
    refine Eq.trans ?_ ih
    refine List.map_congr_left fun i _ => ?_
    show byteOf (((byteBits n ++ bitsOf ns).drop (8 * (i + 1))).take 8) = _
    have e : (byteBits n ++ bitsOf ns).drop (8 * (i + 1)) = (bitsOf ns).drop (8 * i) := by
      have a : 8 * (i + 1) = (byteBits n).length + 8 * i := by rw [byteBits_length]; omega
      rw [a, ← List.drop_drop, List.drop_left]
    rw [e]
theorem bytesOf_bitsOf {ns : List Nat} (h : ∀ x ∈ ns, x < 256) : bytesOf (bitsOf ns) = some ns := by
  unfold bytesOf
  rw [bitsOf_length, if_pos (by omega)]
  have e : 8 * ns.length / 8 = ns.length := by omega
  rw [e, chunks_bitsOf ns h]
theorem pack_length {g : Bits} (hg : Gen g) (ns : List Nat) : (pack g ns).length = 8 * ns.length + (g.length - 1) := by
  unfold pack
  rw [List.length_append, bitsOf_length, checkBits_length hg]
theorem pack_intact {g : Bits} (hg : Gen g) (ns : List Nat) : isIntact g (pack g ns) = true := intact_pack hg _
theorem unpack_pack {g : Bits} (hg : Gen g) {ns : List Nat} (h : ∀ x ∈ ns, x < 256) : unpack g (pack g ns) = some ns := by
  unfold unpack
  rw [if_pos (pack_intact hg ns), pack_length hg]
  have e : 8 * ns.length + (g.length - 1) - (g.length - 1) = (bitsOf ns).length := by rw [bitsOf_length]; omega
  rw [e]
  unfold pack
  rw [List.take_left, bytesOf_bitsOf h]
theorem unpack_bad {g b : Bits} (h : isIntact g b = false) : unpack g b = none := by
  unfold unpack
  rw [h]
  rfl
end Tk
end

section
set_option autoImplicit false
/-! The talk as a plain model, its protocol. -/
namespace Tk
structure St where
  letters : List (List Nat)
  taken : List (List Nat)
  known : Nat
  there : List Bits
  back : List Bits

def put (l : List Bits) (p : Bits) : List Bits := if l.length < 40 then l ++ [p] else l
def payl (w : Nat) (g : Bits) (ls : List (List Nat)) (a : Nat) : Bits := pack g (a % (w + 1) :: ls.getD a [])
def top (w : Nat) (s : St) : Nat := min (s.known + w) s.letters.length
def window (w : Nat) (g : Bits) (s : St) : List Bits := (List.range' s.known (top w s - s.known)).map (payl w g s.letters)
def send (w : Nat) (g : Bits) (s : St) : St := { s with there := (window w g s).foldl put s.there }
def hearT (w : Nat) (g : Bits) (taken : List (List Nat)) (p : Bits) : Option (List (List Nat)) :=
  match unpack g p with
  | some (x :: ys) => if x ≤ w then some (if x = taken.length % (w + 1) then taken ++ [ys] else taken) else none
  | _ => none
def ans (w : Nat) (g : Bits) (taken : List (List Nat)) : Bits := pack g [taken.length % (w + 1)]
def stepsOf (w x known : Nat) : Nat := (((x : Int) - (known : Int)) % ((w : Int) + 1)).toNat
def hearS (w : Nat) (g : Bits) (s : St) (p : Bits) : Nat :=
  match unpack g p with
  | some [x] => if x ≤ w then (if stepsOf w x s.known ≤ top w s - s.known then s.known + stepsOf w x s.known else s.known) else s.known
  | _ => s.known
def delT (w : Nat) (g : Bits) (s : St) : St :=
  match s.there with
  | [] => s
  | p :: r => match hearT w g s.taken p with
    | none => { s with there := r }
    | some tk => { s with there := r, taken := tk, back := put s.back (ans w g tk) }
def delB (w : Nat) (g : Bits) (s : St) : St :=
  match s.back with
  | [] => s
  | p :: r => { s with back := r, known := hearS w g s p }
def line (s : St) (t : Bool) : List Bits := if t then s.there else s.back
def setLine (s : St) (t : Bool) (l : List Bits) : St := if t then { s with there := l } else { s with back := l }
def queue (s : St) (l : List Nat) : St := { s with letters := s.letters ++ [l] }
def lose (s : St) (t : Bool) (i : Nat) : St := setLine s t ((line s t).eraseIdx i)
def twice (l : List Bits) (i : Nat) : List Bits := if l.length < 40 then l.take (i + 1) ++ l.drop i else l
def rept (s : St) (t : Bool) (i : Nat) : St := setLine s t (twice (line s t) i)
def spoil (s : St) (t : Bool) (i f : Nat) (p : Bits) : St := setLine s t ((line s t).set i (damaged ((line s t).getD i []) f p))

/-- a payload with what it was made of: a letter's number, an answer's value -/
abbrev Gh := Bits × Option Nat
def okT (w : Nat) (g : Bits) (sp : List Bits) (s : St) (q : Gh) : Prop :=
  (∃ a, q.2 = some a ∧ a < s.letters.length ∧ q.1 = payl w g s.letters a ∧ s.taken.length ≤ a + w ∧ a + 1 ≤ s.known + w) ∨
    (q.2 = none ∧ isIntact g q.1 = false ∧ q.1 ∈ sp ∧ q.1.length ≤ 48)
def okB (w : Nat) (g : Bits) (sp : List Bits) (s : St) (q : Gh) : Prop :=
  (∃ b, q.2 = some b ∧ q.1 = pack g [b % (w + 1)] ∧ s.known ≤ b ∧ b ≤ s.taken.length) ∨
    (q.2 = none ∧ isIntact g q.1 = false ∧ q.1 ∈ sp ∧ q.1.length ≤ 48)
def RT (w : Nat) (q r : Gh) : Prop := ∀ a b, q.2 = some a → r.2 = some b → a + 1 ≤ b + w
def RB (q r : Gh) : Prop := ∀ a b, q.2 = some a → r.2 = some b → a ≤ b
structure Good (w : Nat) (g : Bits) (sp : List Bits) (s : St) : Prop where
  gen : Gen g
  w1 : 1 ≤ w
  w7 : w ≤ 7
  kt : s.known ≤ s.taken.length
  tw : s.taken.length ≤ s.known + w
  tn : s.taken.length ≤ s.letters.length
  pre : s.taken = s.letters.take s.taken.length
  byt : ∀ l ∈ s.letters, l.length ≤ 4 ∧ ∀ x ∈ l, x < 256
  l1 : s.there.length ≤ 40
  l2 : s.back.length ≤ 40
  gT : ∃ tg : List Gh, s.there = tg.map (·.1) ∧ (∀ q ∈ tg, okT w g sp s q) ∧ tg.Pairwise (RT w)
  gB : ∃ bg : List Gh, s.back = bg.map (·.1) ∧ (∀ q ∈ bg, okB w g sp s q) ∧ bg.Pairwise RB

section
variable {w : Nat} {g : Bits} {sp : List Bits} {s : St}
theorem getD_byt (G : Good w g sp s) (a : Nat) : (s.letters.getD a []).length ≤ 4 ∧ ∀ x ∈ s.letters.getD a [], x < 256 := by
  by_cases h : a < s.letters.length
  · have e : s.letters.getD a [] = s.letters[a] := by simp [List.getD, h]
    rw [e]
    exact G.byt _ (List.getElem_mem h)
  · have e : s.letters.getD a [] = [] := by
      simp [List.getD, List.getElem?_eq_none (Nat.le_of_not_lt h)]
    rw [e]
    exact ⟨by simp, fun x hx => by cases hx⟩
theorem payl_bytes (G : Good w g sp s) (a : Nat) : ∀ x ∈ (a % (w + 1) :: s.letters.getD a []), x < 256 := fun x hx => by
  rcases List.mem_cons.mp hx with e | hx
  · rw [e]
    have := Nat.mod_lt a (show 0 < w + 1 by omega)
    have := G.w7
    omega
  · exact (getD_byt G a).2 x hx
theorem unpack_payl (G : Good w g sp s) (a : Nat) : unpack g (payl w g s.letters a) = some (a % (w + 1) :: s.letters.getD a []) := unpack_pack G.gen (payl_bytes G a)
theorem payl_length (G : Good w g sp s) (a : Nat) : (payl w g s.letters a).length ≤ 48 := by
  unfold payl
  rw [pack_length G.gen, List.length_cons]
  have := (getD_byt G a).1
  have := G.gen.hi
  omega
theorem ans_length (hg : Gen g) (x : Nat) : (pack g [x]).length ≤ 48 := by
  rw [pack_length hg]
  have := hg.hi
  simp only [List.length_cons, List.length_nil]
  omega
theorem Good.lenT (G : Good w g sp s) : ∀ p ∈ s.there, p.length ≤ 48 := fun p hp => by
  obtain ⟨tg, e, h, _⟩ := G.gT
  rw [e] at hp
  obtain ⟨q, hq, rfl⟩ := List.mem_map.mp hp
  rcases h q hq with ⟨a, _, _, e, _⟩ | ⟨_, _, _, h⟩
  · rw [e]; exact payl_length G a
  · exact h
theorem Good.lenB (G : Good w g sp s) : ∀ p ∈ s.back, p.length ≤ 48 := fun p hp => by
  obtain ⟨tg, e, h, _⟩ := G.gB
  rw [e] at hp
  obtain ⟨q, hq, rfl⟩ := List.mem_map.mp hp
  rcases h q hq with ⟨b, _, e, _⟩ | ⟨_, _, _, h⟩
  · rw [e]; exact ans_length G.gen _
  · exact h

/-! ### arithmetic of the numbers -/
theorem mod_eq_of_near {a t w : Nat} (h1 : a < t + (w + 1)) (h2 : t < a + (w + 1)) (h : a % (w + 1) = t % (w + 1)) : a = t := by
  have ea := Nat.div_add_mod a (w + 1)
  have et := Nat.div_add_mod t (w + 1)
  rw [h] at ea
  generalize a / (w + 1) = p at ea
  generalize t / (w + 1) = q at et
  generalize t % (w + 1) = r at ea et
  have hpq : p = q := by
    rcases Nat.lt_trichotomy p q with c | c | c
    · have : (w + 1) * (p + 1) ≤ (w + 1) * q := Nat.mul_le_mul_left _ c
      rw [Nat.mul_add, Nat.mul_one] at this
      omega
    · exact c
    · have : (w + 1) * (q + 1) ≤ (w + 1) * p := Nat.mul_le_mul_left _ c
      rw [Nat.mul_add, Nat.mul_one] at this
      omega
  rw [hpq] at ea
  omega
theorem steps_eq {w b k : Nat} (h1 : k ≤ b) (h2 : b ≤ k + w) : stepsOf w (b % (w + 1)) k = b - k := by
  unfold stepsOf
  have e : (((b % (w + 1) : Nat) : Int) - (k : Int)) % ((w : Int) + 1) = ((b - k : Nat) : Int) := by
    have c : ((b % (w + 1) : Nat) : Int) = (b : Int) % ((w : Int) + 1) := by
      rw [Int.natCast_emod]
      rfl
    rw [c, Int.emod_sub_emod]
    have d : (b : Int) - (k : Int) = ((b - k : Nat) : Int) := by omega
    rw [d]
    exact Int.emod_eq_of_lt (by omega) (by omega)
  rw [e]
  rfl
end
end Tk
end

section
set_option autoImplicit false
/-! The deeds keep the talk good. -/
namespace Tk
section
variable {w : Nat} {g : Bits} {sp : List Bits} {s : St}

/-! ### lists -/
theorem pw_twice {α : Type} {R : α → α → Prop} (hr : ∀ x, R x x) {l : List α} (h : l.Pairwise R) (i : Nat) : (l.take (i + 1) ++ l.drop i).Pairwise R := by
  by_cases c : i < l.length
  · have e1 : l.take (i + 1) = l.take i ++ [l[i]] := by
      rw [List.take_succ]
      simp [c]
    have e2 : l.drop i = l[i] :: l.drop (i + 1) := List.drop_eq_getElem_cons c
    have el : l = l.take i ++ (l[i] :: l.drop (i + 1)) := by rw [← e2, List.take_append_drop]
    have h' := h
    rw [el] at h'
    obtain ⟨h1, h2, h3⟩ := List.pairwise_append.mp h'
    obtain ⟨h4, h5⟩ := List.pairwise_cons.mp h2
    rw [e1, e2, List.append_assoc]
    refine List.pairwise_append.mpr ⟨h1, ?_, fun a ha b hb => ?_⟩
    · refine List.pairwise_cons.mpr ⟨fun b hb => ?_, h2⟩
      rcases List.mem_cons.mp hb with e | hb
      · rw [e]; exact hr _
      · exact h4 b hb
    · rcases List.mem_cons.mp hb with e | hb
      · exact h3 a ha b (by rw [e]; exact List.mem_cons_self ..)
      · exact h3 a ha b hb
  · have e2 : l.drop i = [] := List.drop_eq_nil_of_le (Nat.le_of_not_lt c)
    have e1 : l.take (i + 1) = l := List.take_of_length_le (by omega)
    rw [e1, e2, List.append_nil]
    exact h
theorem pw_set {α : Type} {R : α → α → Prop} : ∀ {l : List α} {i : Nat} {x : α}, l.Pairwise R → (∀ y, R x y) → (∀ y, R y x) → (l.set i x).Pairwise R
  | [], _, _, h, _, _ => h
  | a :: l, 0, x, h, h1, _ => List.pairwise_cons.mpr ⟨fun y _ => h1 y, (List.pairwise_cons.mp h).2⟩
  | a :: l, i + 1, x, h, h1, h2 => by
    obtain ⟨k1, k2⟩ := List.pairwise_cons.mp h
    show (a :: l.set i x).Pairwise R
    refine List.pairwise_cons.mpr ⟨fun y hy => ?_, pw_set k2 h1 h2⟩
    rcases List.mem_or_eq_of_mem_set hy with q | q
    · exact k1 y q
    · rw [q]; exact h2 a
theorem RT_refl (hw : 1 ≤ w) (q : Gh) : RT w q q := fun a b h1 h2 => by
  rw [h1] at h2
  cases h2
  omega
theorem RB_refl (q : Gh) : RB q q := fun a b h1 h2 => by
  rw [h1] at h2
  cases h2
  exact Nat.le_refl _

/-! ### what a payload says under a change of the state -/
theorem okT_mono {s' : St} {sp' : List Bits} {q : Gh} (h : okT w g sp s q) (hl : ∀ a, a < s.letters.length → a < s'.letters.length ∧ payl w g s'.letters a = payl w g s.letters a)
    (ht : s'.taken.length = s.taken.length) (hk : s.known ≤ s'.known) (hs : ∀ p ∈ sp, p ∈ sp') : okT w g sp' s' q := by
  rcases h with ⟨a, e, h1, h2, h3, h4⟩ | ⟨e, h1, h2, h3⟩
  · obtain ⟨k1, k2⟩ := hl a h1
    exact .inl ⟨a, e, k1, by rw [k2]; exact h2, by rw [ht]; exact h3, by omega⟩
  · exact .inr ⟨e, h1, hs _ h2, h3⟩
theorem okB_mono {s' : St} {sp' : List Bits} {q : Gh} (h : okB w g sp s q) (ht : s.taken.length ≤ s'.taken.length) (hk : s'.known = s.known) (hs : ∀ p ∈ sp, p ∈ sp') : okB w g sp' s' q := by
  rcases h with ⟨a, e, h1, h2, h3⟩ | ⟨e, h1, h2, h3⟩
  · exact .inl ⟨a, e, h1, by rw [hk]; exact h2, by omega⟩
  · exact .inr ⟨e, h1, hs _ h2, h3⟩

theorem good_queue (G : Good w g sp s) {l : List Nat} (h4 : l.length ≤ 4) (h256 : ∀ x ∈ l, x < 256) : Good w g sp (queue s l) := by
  have hp : ∀ a, a < s.letters.length → a < (queue s l).letters.length ∧ payl w g (queue s l).letters a = payl w g s.letters a := fun a ha => by
    refine ⟨by show a < (s.letters ++ [l]).length; rw [List.length_append]; omega, ?_⟩
    have e : (s.letters ++ [l]).getD a [] = s.letters.getD a [] := by
      simp [List.getD, List.getElem?_append_left ha]
    show pack g (a % (w + 1) :: (s.letters ++ [l]).getD a []) = _
    rw [e]
    rfl
  have tn : s.taken.length ≤ (s.letters ++ [l]).length := by
    have := G.tn
    rw [List.length_append]
    omega
  refine ⟨G.gen, G.w1, G.w7, G.kt, G.tw, tn, ?_, fun x hx => ?_, G.l1, G.l2, ?_, ?_⟩
  · show s.taken = (s.letters ++ [l]).take s.taken.length
    rw [List.take_append_of_le_length G.tn]
    exact G.pre
  · rcases List.mem_append.mp hx with q | q
    · exact G.byt x q
    · rw [List.mem_singleton.mp q]; exact ⟨h4, h256⟩
  · obtain ⟨tg, e, h, p⟩ := G.gT
    exact ⟨tg, e, fun q hq => okT_mono (h q hq) hp rfl (Nat.le_refl _) fun _ z => z, p⟩
  · obtain ⟨bg, e, h, p⟩ := G.gB
    exact ⟨bg, e, fun q hq => okB_mono (h q hq) (Nat.le_refl _) rfl fun _ z => z, p⟩

theorem put_length {l : List Bits} {p : Bits} (h : l.length ≤ 40) : (put l p).length ≤ 40 := by
  unfold put
  split
  · rw [List.length_append]; simp only [List.length_cons, List.length_nil]; omega
  · exact h
theorem good_send1 (G : Good w g sp s) {a : Nat} (h1 : s.known ≤ a) (h2 : a < top w s) : Good w g sp { s with there := put s.there (payl w g s.letters a) } := by
  have ha : a < s.letters.length ∧ a < s.known + w := by unfold top at h2; omega
  refine ⟨G.gen, G.w1, G.w7, G.kt, G.tw, G.tn, G.pre, G.byt, put_length G.l1, G.l2, ?_, G.gB⟩
  obtain ⟨tg, e, h, p⟩ := G.gT
  by_cases c : s.there.length < 40
  · refine ⟨tg ++ [(payl w g s.letters a, some a)], ?_, fun q hq => ?_, ?_⟩
    · show put s.there _ = _
      unfold put
      rw [if_pos c, List.map_append, e]
      rfl
    · rcases List.mem_append.mp hq with hq | hq
      · exact h q hq
      · rw [List.mem_singleton.mp hq]
        have := G.tw
        exact .inl ⟨a, rfl, ha.1, rfl, by show s.taken.length ≤ a + w; omega, by show a + 1 ≤ s.known + w; omega⟩
    · refine List.pairwise_append.mpr ⟨p, List.pairwise_singleton .., fun q hq r hr => ?_⟩
      rw [List.mem_singleton.mp hr]
      intro x y hx hy
      have hy' : some a = some y := hy
      cases hy'
      rcases h q hq with ⟨a', e', _, _, _, h5⟩ | ⟨e', _⟩
      · rw [e'] at hx; cases hx; omega
      · rw [e'] at hx; cases hx
  · refine ⟨tg, ?_, h, p⟩
    show put s.there _ = _
    unfold put
    rw [if_neg c, e]
theorem good_send_from (n : Nat) : ∀ (a : Nat) (s : St), Good w g sp s → s.known ≤ a → a + n ≤ top w s → Good w g sp { s with there := ((List.range' a n).map (payl w g s.letters)).foldl put s.there } := by
  induction n with
  | zero => intro a s G _ _; exact G
  | succ n ih =>
    intro a s G h1 h2
    rw [List.range'_succ, List.map_cons, List.foldl_cons]
    have G1 := good_send1 G h1 (by omega)
    exact ih (a + 1) _ G1 (by show s.known ≤ a + 1; omega) (by show a + 1 + n ≤ top w s; omega)
theorem good_send (G : Good w g sp s) : Good w g sp (send w g s) := by
  by_cases c : s.known ≤ top w s
  · exact good_send_from (top w s - s.known) s.known s G (Nat.le_refl _) (by omega)
  · have e : top w s - s.known = 0 := by omega
    unfold send window
    rw [e]
    exact G

/-! ### delivering -/
theorem hearT_some (G : Good w g sp s) {a : Nat} (h : a < s.letters.length) (h1 : s.taken.length ≤ a + w) (h2 : a + 1 ≤ s.known + w) :
    hearT w g s.taken (payl w g s.letters a) = some (if a = s.taken.length then s.taken ++ [s.letters.getD a []] else s.taken) := by
  unfold hearT
  rw [unpack_payl G a]
  have hm : a % (w + 1) ≤ w := by
    have := Nat.mod_lt a (show 0 < w + 1 by omega)
    omega
  show (if a % (w + 1) ≤ w then some (if a % (w + 1) = s.taken.length % (w + 1) then s.taken ++ [s.letters.getD a []] else s.taken) else none) = _
  rw [if_pos hm]
  by_cases c : a = s.taken.length
  · rw [if_pos c, if_pos (by rw [c])]
  · rw [if_neg c, if_neg]
    intro e
    have := G.kt
    exact c (mod_eq_of_near (by omega) (by omega) e)
theorem hearT_bad {taken : List (List Nat)} {p : Bits} (h : isIntact g p = false) : hearT w g taken p = none := by
  unfold hearT
  rw [unpack_bad h]
theorem take_snoc (G : Good w g sp s) (h : s.taken.length < s.letters.length) : s.taken ++ [s.letters.getD s.taken.length []] = s.letters.take (s.taken.length + 1) := by
  have e : s.letters.getD s.taken.length [] = s.letters[s.taken.length] := by simp [List.getD, h]
  rw [e, List.take_succ]
  conv => lhs; lhs; rw [G.pre]
  simp [h]
theorem good_delT (G : Good w g sp s) : Good w g sp (delT w g s) := by
  obtain ⟨tg, e, h, p⟩ := G.gT
  cases tg with
  | nil =>
    have e0 : s.there = [] := e
    unfold delT
    rw [e0]
    exact G
  | cons q tg =>
    have e0 : s.there = q.1 :: tg.map (·.1) := e
    obtain ⟨p1, p2⟩ := List.pairwise_cons.mp p
    have hl : (tg.map (·.1)).length ≤ 40 := by
      have := G.l1
      rw [e0, List.length_cons] at this
      omega
    unfold delT
    rw [e0]
    rcases h q (List.mem_cons_self ..) with ⟨a, eq, h1, h2, h3, h4⟩ | ⟨eq, h1, h2, h3⟩
    · rw [h2, ]
      show Good w g sp (match hearT w g s.taken (payl w g s.letters a) with | none => _ | some tk => _)
      rw [hearT_some G h1 h3 h4]
      show Good w g sp { s with there := tg.map (·.1), taken := _, back := _ }
      have hkt := G.kt
      by_cases c : a = s.taken.length
      · rw [if_pos c]
        have hlen : (s.taken ++ [s.letters.getD a []]).length = s.taken.length + 1 := by rw [List.length_append]; rfl
        refine ⟨G.gen, G.w1, G.w7, ?_, ?_, ?_, ?_, G.byt, hl, put_length G.l2, ?_, ?_⟩
        · show s.known ≤ (s.taken ++ [s.letters.getD a []]).length
          rw [hlen]; omega
        · show (s.taken ++ [s.letters.getD a []]).length ≤ s.known + w
          rw [hlen]; omega
        · show (s.taken ++ [s.letters.getD a []]).length ≤ s.letters.length
          rw [hlen]; omega
        · show s.taken ++ [s.letters.getD a []] = s.letters.take (s.taken ++ [s.letters.getD a []]).length
          rw [hlen, c]
          exact take_snoc G (by omega)
        · refine ⟨tg, rfl, fun r hr => ?_, p2⟩
          rcases h r (List.mem_cons_of_mem _ hr) with ⟨b, e', k1, k2, k3, k4⟩ | k
          · refine .inl ⟨b, e', k1, k2, ?_, k4⟩
            show (s.taken ++ [s.letters.getD a []]).length ≤ b + w
            have := p1 r hr a b eq e'
            rw [hlen]; omega
          · exact .inr k
        · obtain ⟨bg, eb, hb, pb⟩ := G.gB
          by_cases c2 : s.back.length < 40
          · refine ⟨bg ++ [(ans w g (s.taken ++ [s.letters.getD a []]), some (s.taken.length + 1))], ?_, fun r hr => ?_, ?_⟩
            · show put s.back _ = _
              unfold put
              rw [if_pos c2, List.map_append, eb]
              rfl
            · rcases List.mem_append.mp hr with hr | hr
              · exact okB_mono (hb r hr) (by show s.taken.length ≤ (s.taken ++ [s.letters.getD a []]).length; rw [hlen]; omega) rfl fun _ z => z
              · rw [List.mem_singleton.mp hr]
                refine .inl ⟨s.taken.length + 1, rfl, ?_, ?_, ?_⟩
                · show ans w g (s.taken ++ [s.letters.getD a []]) = _
                  unfold ans
                  rw [hlen]
                · show s.known ≤ s.taken.length + 1
                  omega
                · show s.taken.length + 1 ≤ (s.taken ++ [s.letters.getD a []]).length
                  rw [hlen]; exact Nat.le_refl _
            · refine List.pairwise_append.mpr ⟨pb, List.pairwise_singleton .., fun r hr r' hr' => ?_⟩
              rw [List.mem_singleton.mp hr']
              intro x y hx hy
              have hy' : some (s.taken.length + 1) = some y := hy
              cases hy'
              rcases hb r hr with ⟨b, e', _, _, k3⟩ | ⟨e', _⟩
              · rw [e'] at hx; cases hx; omega
              · rw [e'] at hx; cases hx
          · refine ⟨bg, ?_, fun r hr => okB_mono (hb r hr) (by show s.taken.length ≤ (s.taken ++ [s.letters.getD a []]).length; rw [hlen]; omega) rfl fun _ z => z, pb⟩
            show put s.back _ = _
            unfold put
            rw [if_neg c2, eb]
      · rw [if_neg c]
        refine ⟨G.gen, G.w1, G.w7, G.kt, G.tw, G.tn, G.pre, G.byt, hl, put_length G.l2, ⟨tg, rfl, fun r hr => h r (List.mem_cons_of_mem _ hr), p2⟩, ?_⟩
        obtain ⟨bg, eb, hb, pb⟩ := G.gB
        by_cases c2 : s.back.length < 40
        · refine ⟨bg ++ [(ans w g s.taken, some s.taken.length)], ?_, fun r hr => ?_, ?_⟩
          · show put s.back _ = _
            unfold put
            rw [if_pos c2, List.map_append, eb]
            rfl
          · rcases List.mem_append.mp hr with hr | hr
            · exact hb r hr
            · rw [List.mem_singleton.mp hr]
              exact .inl ⟨s.taken.length, rfl, rfl, G.kt, Nat.le_refl _⟩
          · refine List.pairwise_append.mpr ⟨pb, List.pairwise_singleton .., fun r hr r' hr' => ?_⟩
            rw [List.mem_singleton.mp hr']
            intro x y hx hy
            have hy' : some s.taken.length = some y := hy
            cases hy'
            rcases hb r hr with ⟨b, e', _, _, k3⟩ | ⟨e', _⟩
            · rw [e'] at hx; cases hx; exact k3
            · rw [e'] at hx; cases hx
        · refine ⟨bg, ?_, hb, pb⟩
          show put s.back _ = _
          unfold put
          rw [if_neg c2, eb]
    · show Good w g sp (match hearT w g s.taken q.1 with | none => _ | some tk => _)
      rw [hearT_bad h1]
      exact ⟨G.gen, G.w1, G.w7, G.kt, G.tw, G.tn, G.pre, G.byt, hl, G.l2, ⟨tg, rfl, fun r hr => h r (List.mem_cons_of_mem _ hr), p2⟩, G.gB⟩

theorem hearS_some (G : Good w g sp s) {b : Nat} (h1 : s.known ≤ b) (h2 : b ≤ s.taken.length) : hearS w g s (pack g [b % (w + 1)]) = b := by
  have hm : b % (w + 1) ≤ w := by
    have := Nat.mod_lt b (show 0 < w + 1 by omega)
    omega
  have hw := G.w7
  unfold hearS
  rw [unpack_pack G.gen (by intro x hx; rw [List.mem_singleton.mp hx]; omega)]
  show (if b % (w + 1) ≤ w then (if stepsOf w (b % (w + 1)) s.known ≤ top w s - s.known then s.known + stepsOf w (b % (w + 1)) s.known else s.known) else s.known) = b
  have h3 := G.tw
  have h4 := G.tn
  rw [if_pos hm, steps_eq h1 (by omega), if_pos (by unfold top; omega)]
  omega
theorem hearS_bad {p : Bits} (h : isIntact g p = false) : hearS w g s p = s.known := by
  unfold hearS
  rw [unpack_bad h]
theorem good_known (G : Good w g sp s) {b : Nat} {r : List Bits} {bg : List Gh} (h1 : s.known ≤ b) (h2 : b ≤ s.taken.length) (hl : r.length ≤ 40) (e : r = bg.map (·.1)) (h : ∀ q ∈ bg, okB w g sp { s with back := r, known := b } q) (p : bg.Pairwise RB) :
    Good w g sp { s with back := r, known := b } := by
  have h3 := G.tw
  refine ⟨G.gen, G.w1, G.w7, h2, by show s.taken.length ≤ b + w; omega, G.tn, G.pre, G.byt, G.l1, hl, ?_, ⟨bg, e, h, p⟩⟩
  obtain ⟨tg, et, ht, pt⟩ := G.gT
  exact ⟨tg, et, fun q hq => okT_mono (ht q hq) (fun a ha => ⟨ha, rfl⟩) rfl h1 fun _ z => z, pt⟩
theorem good_delB (G : Good w g sp s) : Good w g sp (delB w g s) := by
  obtain ⟨bg, e, h, p⟩ := G.gB
  cases bg with
  | nil =>
    have e0 : s.back = [] := e
    unfold delB
    rw [e0]
    exact G
  | cons q bg =>
    have e0 : s.back = q.1 :: bg.map (·.1) := e
    obtain ⟨p1, p2⟩ := List.pairwise_cons.mp p
    have hl : (bg.map (·.1)).length ≤ 40 := by
      have := G.l2
      rw [e0, List.length_cons] at this
      omega
    unfold delB
    rw [e0]
    show Good w g sp { s with back := bg.map (·.1), known := hearS w g s q.1 }
    rcases h q (List.mem_cons_self ..) with ⟨b, eq, h1, h2, h3⟩ | ⟨eq, h1, h2, h3⟩
    · rw [h1, hearS_some G h2 h3]
      refine good_known G h2 h3 hl rfl (fun r hr => ?_) p2
      rcases h r (List.mem_cons_of_mem _ hr) with ⟨b', e', k1, k2, k3⟩ | k
      · exact .inl ⟨b', e', k1, p1 r hr b b' eq e', k3⟩
      · exact .inr k
    · rw [hearS_bad h1]
      exact good_known G (Nat.le_refl _) G.kt hl rfl (fun r hr => h r (List.mem_cons_of_mem _ hr)) p2

/-! ### what a line suffers -/
theorem map_erase {α β : Type} (f : α → β) : ∀ (l : List α) (i : Nat), (l.map f).eraseIdx i = (l.eraseIdx i).map f
  | [], _ => rfl
  | _ :: _, 0 => rfl
  | a :: l, i + 1 => by
    show f a :: (l.map f).eraseIdx i = f a :: (l.eraseIdx i).map f
    rw [map_erase f l i]
theorem good_lose (G : Good w g sp s) (t : Bool) (i : Nat) : Good w g sp (lose s t i) := by
  have le : ∀ l : List Bits, (l.eraseIdx i).length ≤ l.length := fun l => by
    rw [List.length_eraseIdx]; split <;> omega
  cases t with
  | true =>
    obtain ⟨tg, e, h, p⟩ := G.gT
    refine ⟨G.gen, G.w1, G.w7, G.kt, G.tw, G.tn, G.pre, G.byt, Nat.le_trans (le _) G.l1, G.l2, ⟨tg.eraseIdx i, ?_, fun q hq => h q (List.mem_of_mem_eraseIdx hq), p.sublist (List.eraseIdx_sublist ..)⟩, G.gB⟩
    show s.there.eraseIdx i = _
    rw [e, map_erase]
  | false =>
    obtain ⟨tg, e, h, p⟩ := G.gB
    refine ⟨G.gen, G.w1, G.w7, G.kt, G.tw, G.tn, G.pre, G.byt, G.l1, Nat.le_trans (le _) G.l2, G.gT, ⟨tg.eraseIdx i, ?_, fun q hq => h q (List.mem_of_mem_eraseIdx hq), p.sublist (List.eraseIdx_sublist ..)⟩⟩
    show s.back.eraseIdx i = _
    rw [e, map_erase]
theorem twice_length {l : List Bits} {i : Nat} (h : l.length ≤ 40) : (twice l i).length ≤ 40 := by
  unfold twice
  split
  · rw [List.length_append, List.length_take, List.length_drop]; omega
  · exact h
theorem mem_twice {α : Type} {l : List α} {i : Nat} {x : α} (h : x ∈ l.take (i + 1) ++ l.drop i) : x ∈ l := by
  rcases List.mem_append.mp h with q | q
  · exact List.mem_of_mem_take q
  · exact List.mem_of_mem_drop q
theorem good_rept (G : Good w g sp s) (t : Bool) (i : Nat) : Good w g sp (rept s t i) := by
  cases t with
  | true =>
    obtain ⟨tg, e, h, p⟩ := G.gT
    by_cases c : s.there.length < 40
    · refine ⟨G.gen, G.w1, G.w7, G.kt, G.tw, G.tn, G.pre, G.byt, twice_length G.l1, G.l2, ⟨tg.take (i + 1) ++ tg.drop i, ?_, fun q hq => h q (mem_twice hq), pw_twice (RT_refl G.w1) p i⟩, G.gB⟩
      show twice s.there i = _
      unfold twice
      rw [if_pos c, e, List.map_append, List.map_take, List.map_drop]
    · have e0 : rept s true i = s := by
        show { s with there := twice s.there i } = s
        unfold twice
        rw [if_neg c]
      rw [e0]
      exact G
  | false =>
    obtain ⟨tg, e, h, p⟩ := G.gB
    by_cases c : s.back.length < 40
    · refine ⟨G.gen, G.w1, G.w7, G.kt, G.tw, G.tn, G.pre, G.byt, G.l1, twice_length G.l2, G.gT, ⟨tg.take (i + 1) ++ tg.drop i, ?_, fun q hq => h q (mem_twice hq), pw_twice RB_refl p i⟩⟩
      show twice s.back i = _
      unfold twice
      rw [if_pos c, e, List.map_append, List.map_take, List.map_drop]
    · have e0 : rept s false i = s := by
        show { s with back := twice s.back i } = s
        unfold twice
        rw [if_neg c]
      rw [e0]
      exact G
theorem map_set' {α β : Type} (f : α → β) : ∀ (l : List α) (i : Nat) (x : α), (l.map f).set i (f x) = (l.set i x).map f
  | [], _, _ => rfl
  | _ :: _, 0, _ => rfl
  | a :: l, i + 1, x => by
    show f a :: (l.map f).set i (f x) = f a :: (l.set i x).map f
    rw [map_set' f l i x]
theorem set_same {α : Type} : ∀ {l : List α} {i : Nat} {x : α}, l[i]? = some x → l.set i x = l
  | [], _, _, h => by simp at h
  | _ :: _, 0, _, h => by
    simp at h
    subst h
    rfl
  | a :: l, i + 1, x, h => by
    show a :: l.set i x = a :: l
    rw [set_same (by simpa using h)]
theorem good_more {sp' : List Bits} (G : Good w g sp s) (hs : ∀ p ∈ sp, p ∈ sp') : Good w g sp' s := by
  refine ⟨G.gen, G.w1, G.w7, G.kt, G.tw, G.tn, G.pre, G.byt, G.l1, G.l2, ?_, ?_⟩
  · obtain ⟨tg, e, h, p⟩ := G.gT
    exact ⟨tg, e, fun q hq => okT_mono (h q hq) (fun a ha => ⟨ha, rfl⟩) rfl (Nat.le_refl _) hs, p⟩
  · obtain ⟨tg, e, h, p⟩ := G.gB
    exact ⟨tg, e, fun q hq => okB_mono (h q hq) (Nat.le_refl _) rfl hs, p⟩
/-- a payload that was not damaged yet is damaged by a pattern shorter than the generator -/
theorem good_spoil (G : Good w g sp s) {t : Bool} {i f : Nat} {p b : Bits} (hb : (line s t)[i]? = some b) (hn : b ∉ sp) (hp : p.length < g.length) (hf : f + p.length ≤ b.length) :
    Good w g (sp ++ [damaged b f p]) (spoil s t i f p) := by
  have more : ∀ x ∈ sp, x ∈ sp ++ [damaged b f p] := fun x hx => List.mem_append_left _ hx
  have G' := good_more G more
  have eD : (line s t).getD i [] = b := by simp [List.getD, hb]
  have dl := damaged_length hf
  cases t with
  | true =>
    have hb' : s.there[i]? = some b := hb
    have eD' : s.there.getD i [] = b := eD
    obtain ⟨tg, e, h, pw⟩ := G'.gT
    obtain ⟨q, hq, eq⟩ : ∃ q, tg[i]? = some q ∧ q.1 = b := by
      rw [e, List.getElem?_map] at hb'
      cases z : tg[i]? with
      | none => rw [z] at hb'; cases hb'
      | some q => rw [z] at hb'; exact ⟨q, rfl, Option.some.inj hb'⟩
    have hint : isIntact g b = true := by
      rcases G.gT with ⟨tg0, e0, h0, _⟩
      have hm : b ∈ s.there := List.mem_of_getElem? hb'
      rw [e0] at hm
      obtain ⟨q0, hq0, rfl⟩ := List.mem_map.mp hm
      rcases h0 q0 hq0 with ⟨a, _, _, k2, _⟩ | ⟨_, _, k, _⟩
      · rw [k2]; exact pack_intact G.gen _
      · exact absurd k hn
    have hlen : b.length ≤ 48 := G.lenT b (List.mem_of_getElem? hb')
    show Good w g _ { s with there := s.there.set i (damaged (s.there.getD i []) f p) }
    rw [eD']
    rcases damaged_found G.gen hint hp hf with d | d
    · rw [d, set_same hb']
      rw [d] at G'
      exact G'
    · refine ⟨G.gen, G.w1, G.w7, G.kt, G.tw, G.tn, G.pre, G.byt, by show (s.there.set i _).length ≤ 40; rw [List.length_set]; exact G.l1, G.l2, ⟨tg.set i (damaged b f p, none), ?_, fun r hr => ?_, ?_⟩, G'.gB⟩
      · show s.there.set i (damaged b f p) = _
        rw [e, ← map_set']
      · rcases List.mem_or_eq_of_mem_set hr with k | k
        · exact h r k
        · rw [k]
          exact .inr ⟨rfl, d, by simp, by show (damaged b f p).length ≤ 48; rw [dl]; exact hlen⟩
      · exact pw_set pw (fun y a b' h1 _ => by cases h1) fun y a b' _ h2 => by cases h2
  | false =>
    have hb' : s.back[i]? = some b := hb
    have eD' : s.back.getD i [] = b := eD
    obtain ⟨tg, e, h, pw⟩ := G'.gB
    obtain ⟨q, hq, eq⟩ : ∃ q, tg[i]? = some q ∧ q.1 = b := by
      rw [e, List.getElem?_map] at hb'
      cases z : tg[i]? with
      | none => rw [z] at hb'; cases hb'
      | some q => rw [z] at hb'; exact ⟨q, rfl, Option.some.inj hb'⟩
    have hint : isIntact g b = true := by
      rcases G.gB with ⟨tg0, e0, h0, _⟩
      have hm : b ∈ s.back := List.mem_of_getElem? hb'
      rw [e0] at hm
      obtain ⟨q0, hq0, rfl⟩ := List.mem_map.mp hm
      rcases h0 q0 hq0 with ⟨a, _, k2, _⟩ | ⟨_, _, k, _⟩
      · rw [k2]; exact pack_intact G.gen _
      · exact absurd k hn
    have hlen : b.length ≤ 48 := G.lenB b (List.mem_of_getElem? hb')
    show Good w g _ { s with back := s.back.set i (damaged (s.back.getD i []) f p) }
    rw [eD']
    rcases damaged_found G.gen hint hp hf with d | d
    · rw [d, set_same hb']
      rw [d] at G'
      exact G'
    · refine ⟨G.gen, G.w1, G.w7, G.kt, G.tw, G.tn, G.pre, G.byt, G.l1, by show (s.back.set i _).length ≤ 40; rw [List.length_set]; exact G.l2, G'.gT, ⟨tg.set i (damaged b f p, none), ?_, fun r hr => ?_, ?_⟩⟩
      · show s.back.set i (damaged b f p) = _
        rw [e, ← map_set']
      · rcases List.mem_or_eq_of_mem_set hr with k | k
        · exact h r k
        · rw [k]
          exact .inr ⟨rfl, d, by simp, by show (damaged b f p).length ≤ 48; rw [dl]; exact hlen⟩
      · exact pw_set pw (fun y a b' h1 _ => by cases h1) fun y a b' _ h2 => by cases h2
end
end Tk
end

section
set_option autoImplicit false
/-! finish brings all letters. -/
namespace Tk
section
variable {w : Nat} {g : Bits} {sp : List Bits} {s : St}

/-- behind the window was sent onto empty lines (if fresh), while what is on the line there is delivered; k₀: what was known then -/
structure PhT (w : Nat) (g : Bits) (sp : List Bits) (ls : List (List Nat)) (k0 : Nat) (fresh : Prop) (s : St) : Prop where
  good : Good w g sp s
  same : s.letters = ls
  known : s.known = k0
  run : fresh → ∃ a, k0 ≤ a ∧ a ≤ top w s ∧ a ≤ s.taken.length ∧ s.there = (List.range' a (top w s - a)).map (payl w g s.letters) ∧ s.back.length ≤ a - k0 ∧
    (k0 < a → s.back.getLast? = some (ans w g s.taken))
/-- while what is on the line back is delivered -/
structure PhB (w : Nat) (g : Bits) (sp : List Bits) (ls : List (List Nat)) (k0 : Nat) (fresh : Prop) (s : St) : Prop where
  good : Good w g sp s
  same : s.letters = ls
  none : s.there = []
  known : k0 ≤ s.known
  run : fresh → s.taken.length = min (k0 + w) s.letters.length ∧ (s.back ≠ [] → s.back.getLast? = some (ans w g s.taken)) ∧ (s.back = [] → s.known = s.taken.length)

theorem sent_fresh : ∀ (n a : Nat) (l : List Bits), l.length + n ≤ 40 → ((List.range' a n).map (payl w g s.letters)).foldl put l = l ++ (List.range' a n).map (payl w g s.letters)
  | 0, a, l, _ => by simp
  | n + 1, a, l, h => by
    rw [List.range'_succ, List.map_cons, List.foldl_cons]
    have e : put l (payl w g s.letters a) = l ++ [payl w g s.letters a] := by
      unfold put
      rw [if_pos (by omega)]
    rw [e, sent_fresh n (a + 1) _ (by rw [List.length_append]; simp only [List.length_cons, List.length_nil]; omega), List.append_assoc]
    rfl
theorem phT_start (G : Good w g sp s) : PhT w g sp s.letters s.known (s.there = [] ∧ s.back = []) (send w g s) := by
  refine ⟨good_send G, rfl, rfl, fun ⟨e1, e2⟩ => ⟨s.known, Nat.le_refl _, ?_, G.kt, ?_, ?_, fun h => absurd h (Nat.lt_irrefl _)⟩⟩
  · show s.known ≤ min (s.known + w) s.letters.length
    have := G.kt
    have := G.tn
    omega
  · show (window w g s).foldl put s.there = _
    rw [e1]
    unfold window
    have h7 := G.w7
    rw [sent_fresh _ _ _ (by unfold top; simp only [List.length_nil]; omega)]
    rfl
  · show s.back.length ≤ _
    rw [e2]
    exact Nat.zero_le _
theorem getLast_put {l : List Bits} {p : Bits} (h : l.length < 40) : (put l p).getLast? = some p := by
  unfold put
  rw [if_pos h]
  simp
theorem phT_step {ls : List (List Nat)} {k0 : Nat} {fresh : Prop} (h : PhT w g sp ls k0 fresh s) (hn : s.there ≠ []) : PhT w g sp ls k0 fresh (delT w g s) ∧ (delT w g s).there.length < s.there.length := by
  have hth : (delT w g s).there.length < s.there.length := by
    unfold delT
    cases e : s.there with
    | nil => exact absurd e hn
    | cons p r =>
      dsimp only
      cases hearT w g s.taken p <;> simp
  refine ⟨⟨good_delT h.good, ?_, ?_, fun hf => ?_⟩, hth⟩
  · have : (delT w g s).letters = s.letters := by
      unfold delT
      cases s.there with
      | nil => rfl
      | cons p r =>
        dsimp only
        cases hearT w g s.taken p <;> rfl
    rw [this]; exact h.same
  · have : (delT w g s).known = s.known := by
      unfold delT
      cases s.there with
      | nil => rfl
      | cons p r =>
        dsimp only
        cases hearT w g s.taken p <;> rfl
    rw [this]; exact h.known
  · obtain ⟨a, h1, h2, h3, h4, h5, h6⟩ := h.run hf
    have hk := h.known
    have hlt : a < top w s := by
      by_cases c : a < top w s
      · exact c
      · have e : top w s - a = 0 := by omega
        rw [e] at h4
        exact absurd h4 hn
    have G := h.good
    have hw7 := G.w7
    have ha : a < s.letters.length ∧ a < s.known + w := by unfold top at hlt; omega
    have e4 : s.there = payl w g s.letters a :: (List.range' (a + 1) (top w s - (a + 1))).map (payl w g s.letters) := by
      rw [h4]
      have : top w s - a = (top w s - (a + 1)) + 1 := by omega
      rw [this, List.range'_succ, List.map_cons]
    have hear := hearT_some G (a := a) ha.1 (by have := G.tw; omega) (by omega)
    have ed : delT w g s = { s with there := (List.range' (a + 1) (top w s - (a + 1))).map (payl w g s.letters), taken := (if a = s.taken.length then s.taken ++ [s.letters.getD a []] else s.taken), back := put s.back (ans w g (if a = s.taken.length then s.taken ++ [s.letters.getD a []] else s.taken)) } := by
      unfold delT
      rw [e4]
      show (match hearT w g s.taken (payl w g s.letters a) with | none => _ | some tk => _) = _
      rw [hear]
    rw [ed]
    have hb : s.back.length < 40 := by unfold top at hlt; omega
    refine ⟨a + 1, by omega, hlt, ?_, rfl, ?_, fun _ => getLast_put hb⟩
    · show a + 1 ≤ (if a = s.taken.length then s.taken ++ [s.letters.getD a []] else s.taken).length
      by_cases c : a = s.taken.length
      · rw [if_pos c, List.length_append]
        simp only [List.length_cons, List.length_nil]
        omega
      · rw [if_neg c]; omega
    · show (put s.back _).length ≤ a + 1 - k0
      unfold put
      rw [if_pos hb, List.length_append]
      simp only [List.length_cons, List.length_nil]
      omega
theorem phT_end {ls : List (List Nat)} {k0 : Nat} {fresh : Prop} (h : PhT w g sp ls k0 fresh s) (hn : s.there = []) : PhB w g sp ls k0 fresh s := by
  refine ⟨h.good, h.same, hn, Nat.le_of_eq h.known.symm, fun hf => ?_⟩
  obtain ⟨a, h1, h2, h3, h4, h5, h6⟩ := h.run hf
  have hk := h.known
  have G := h.good
  have e : top w s - a = 0 := by
    have := congrArg List.length h4
    rw [hn, List.length_map, List.length_range'] at this
    exact this.symm
  have tw := G.tw
  have tn := G.tn
  have et : s.taken.length = min (k0 + w) s.letters.length := by
    unfold top at e
    unfold top at h2
    omega
  refine ⟨et, fun hb => h6 ?_, fun hb => ?_⟩
  · have : 0 < s.back.length := List.length_pos_iff.mpr hb
    omega
  · have c : ¬ k0 < a := fun c => by
      have := h6 c
      rw [hb] at this
      cases this
    unfold top at e
    omega
theorem phB_step {ls : List (List Nat)} {k0 : Nat} {fresh : Prop} (h : PhB w g sp ls k0 fresh s) (hn : s.back ≠ []) : PhB w g sp ls k0 fresh (delB w g s) ∧ (delB w g s).back.length < s.back.length := by
  have G := h.good
  cases e : s.back with
  | nil => exact absurd e hn
  | cons p r =>
    have ed : delB w g s = { s with back := r, known := hearS w g s p } := by
      unfold delB
      rw [e]
    have G' := good_delB G
    rw [ed] at G' ⊢
    have hmono : s.known ≤ hearS w g s p := by
      unfold hearS
      split
      · split
        · split
          · omega
          · exact Nat.le_refl _
        · exact Nat.le_refl _
      · exact Nat.le_refl _
    refine ⟨⟨G', h.same, h.none, by show k0 ≤ hearS w g s p; have := h.known; omega, fun hf => ?_⟩, by show r.length < (p :: r).length; simp⟩
    obtain ⟨h1, h2, h3⟩ := h.run hf
    have hl := h2 hn
    rw [e] at hl
    refine ⟨h1, fun hr => ?_, fun hr => ?_⟩
    · show r.getLast? = _
      have hr' : r ≠ [] := hr
      cases r with
      | nil => exact absurd rfl hr'
      | cons q r => exact hl
    · have hr' : r = [] := hr
      rw [hr'] at hl
      have ep : p = ans w g s.taken := Option.some.inj hl
      show hearS w g s p = s.taken.length
      rw [ep]
      exact hearS_some G G.kt (Nat.le_refl _)
theorem phB_end {ls : List (List Nat)} {k0 : Nat} {fresh : Prop} (h : PhB w g sp ls k0 fresh s) (hn : s.back = []) (hk : k0 < ls.length) : s.there = [] ∧ k0 ≤ s.known ∧ (fresh → k0 < s.known) := by
  refine ⟨h.none, h.known, fun hf => ?_⟩
  obtain ⟨h1, _, h3⟩ := h.run hf
  rw [h3 hn, h1, h.same]
  have := h.good.w1
  omega
/-- what falls from round to round -/
def left (s : St) : Nat := 2 * (s.letters.length - s.known) + (if s.there = [] ∧ s.back = [] then 0 else 1)
theorem left_falls {s' : St} (hk : s.known < s.letters.length) (h : PhB w g sp s.letters s.known (s.there = [] ∧ s.back = []) s') (hn : s'.back = []) : left s' < left s := by
  obtain ⟨h1, h2, h3⟩ := phB_end h hn hk
  unfold left
  rw [if_pos ⟨h1, hn⟩, h.same]
  by_cases c : s.there = [] ∧ s.back = []
  · rw [if_pos c]
    have := h3 c
    omega
  · rw [if_neg c]
    omega
theorem good_all (G : Good w g sp s) (h : ¬ s.known < s.letters.length) : s.taken = s.letters ∧ s.known = s.letters.length := by
  have h1 := G.kt
  have h2 := G.tn
  have e : s.taken.length = s.letters.length := by omega
  refine ⟨?_, by omega⟩
  have := G.pre
  rw [e, List.take_length] at this
  exact this
theorem good_start {g : Bits} (hg : Gen g) (h1 : 1 ≤ w) (h7 : w ≤ 7) : Good w g [] ⟨[], [], 0, [], []⟩ :=
  ⟨hg, h1, h7, Nat.le_refl _, Nat.zero_le _, Nat.le_refl _, rfl, (fun l hl => by cases hl), Nat.zero_le _, Nat.zero_le _, ⟨[], rfl, (fun q hq => by cases hq), .nil⟩, ⟨[], rfl, (fun q hq => by cases hq), .nil⟩⟩
end
end Tk
end

section
set_option Elab.async false
set_option maxRecDepth 100000
/-! Rules of my own over the layer: enumerate(text), text * int, text[::-1]. -/
namespace Tk
open PySem PySem.Spec PyProof.Rows L2

/-! ### enumerate(text) -/
def Ites (x : Str) : It :=
  ⟨fun i _ => i < x.cps.size, fun i H v H' => ∃ T c, v = .ref T ∧ H T = none ∧ H' = upd H T (.tup [.int (i : Nat), .str ⟨#[c]⟩]) ∧ x.cps[i]? = some c, fun i _ => x.cps.size ≤ i⟩
def SignV (x : Str) (i : Nat) (v : Value) : Prop := ∃ c u, x.cps[i]? = some c ∧ v = .str ⟨#[c]⟩ u
theorem draws_str {prog : Program} {w : World} {A : Around} (hh : A.handled = none) (it : Addr) (x : Str) (t : Tok) :
    Draws prog w A it [it] x.cps.size (SignV x) (fun i h => h.IsStrIter it (strIterType x) x t i) := by
  by_cases ha : x.cps.all (· < 128) = true
  · have e : strIterType x = "str_ascii_iterator" := by unfold strIterType; rw [if_pos ha]
    rw [e]
    exact Draws.strAscii hh it x t
  · have e : strIterType x = "str_iterator" := by unfold strIterType; rw [if_neg ha]
    rw [e]
    exact Draws.strWide hh it x t
theorem turn_enumS {P : Program} {w : World} {K : PySem.W.Frag} {elts : List Expr} {kk : Nat} {tpos : Pos} (x : Str) (t : Tok) (e it : Addr) :
    Turn P w K (.Tuple elts kk tpos) (Ites x) [e, it] e (fun i h => (∃ old, IsEnum h e it ((i : Nat) : Int) old) ∧ h.IsStrIter it (strIterType x) x t i ∧ e ≠ it) where
  mem := by simp
  obj := fun i h st b hb => by
    obtain ⟨⟨old, he⟩, ⟨o, ho, hc, hd⟩, _⟩ := st
    have e' : b = e ∨ b = it := by simpa using hb
    rcases e' with z | z
    · rw [z]; exact ⟨_, he, fun v q => nomatch q⟩
    · rw [z]; exact ⟨o, ho, fun v q => by rw [hd] at q; cases q⟩
  keep := fun i h h' st k => by
    obtain ⟨⟨old, he⟩, ⟨o, ho, r⟩, hne⟩ := st
    exact ⟨⟨old, k e (by simp) _ he⟩, ⟨o, k it (by simp) o ho, r⟩, hne⟩
  item := by
    intro X hP hw hK hc i pins s σ H E I hf st hg
    subst hP hw hK
    obtain ⟨⟨old, he⟩, hit, hne⟩ := st
    have hel : e < s.heap.objs.size := Heap.lt_size he
    have hil : it < s.heap.objs.size := by obtain ⟨_, q, _⟩ := hit; exact Heap.lt_size q
    have hh : X.A.in1.handled = none := I.ok.hd hc
    refine wpAny_pyNext_enum_itemD (draws_str hh it x t) he hit hg hne (by simpa using hne) fun v h' tk hP' ho hit' hT hsz hk => ?_
    obtain ⟨c, u, hcx, rfl⟩ := hP'
    refine ⟨_, rfl, wpAny_letOwnedTupleGo_enum (s := { s with heap := h', toks := tk + 1 }) ho fun h'' he' sb => ?_⟩
    have hT2 : h''.get? s.heap.objs.size = some { cls := .type "tuple", data := .seq #[.int i tk, .str ⟨#[c]⟩ u] } := (sb.2 _ (Nat.ne_of_gt hel)).trans hT
    have new : ObjOk X.prog X.w (upd H s.heap.objs.size (.tup [.int (i : Nat), .str ⟨#[c]⟩])) h'' s.heap.objs.size (.tup [.int (i : Nat), .str ⟨#[c]⟩]) :=
      ⟨by show 2 ≤ sizeLine; decide, [.int i tk, .str ⟨#[c]⟩ u], .cons ⟨_, rfl⟩ (.cons ⟨_, rfl⟩ .nil), ⟨_, hT2, rfl, _, rfl⟩⟩
    have I1 : Inv X pins σ (upd H s.heap.objs.size (.tup [.int (i : Nat), .str ⟨#[c]⟩])) { s with heap := h'', toks := tk + 1 } :=
      I.turnedNew (ch := [e, it]) (fun b ob hb q => (sb.2 b (fun z => hb (by simp [z]))).trans (hk b ob (fun z => hb (by simp [z])) (fun z => hb (by simp [z])) q)) hf (Nat.le_refl _) new
    refine ⟨.ref s.heap.objs.size, _, I1, rfl, ⟨_, c, rfl, I.hok.fresh (Nat.le_refl _), rfl, hcx⟩, ⟨⟨.str ⟨#[c]⟩ u, ?_⟩, ?_, hne⟩, fun b hb => ?_⟩
    · have e1 : ((i + 1 : Nat) : Int) = (i : Int) + 1 := by omega
      rw [e1]; exact he'
    · obtain ⟨o, q, r⟩ := hit'
      exact ⟨o, (sb.2 it (Ne.symm hne)).trans q, r⟩
    · have hb' : b < s.heap.objs.size := by
        have e' : b = e ∨ b = it := by simpa using hb
        rcases e' with z | z
        · rw [z]; exact hel
        · rw [z]; exact hil
      rw [upd_ne (Nat.ne_of_lt hb')]
      exact (hf b hb).1
  done := by
    intro X hP hw hK hc i pins s σ H E I hf st hg
    subst hP hw hK
    obtain ⟨⟨old, he⟩, hit, hne⟩ := st
    obtain ⟨f0, f1, f2, f3, f4, f5⟩ := hf it (by simp)
    have hh : X.A.in1.handled = none := I.ok.hd hc
    have hx : x.cps[i]? = none := Array.getElem?_eq_none hg
    have fin : ∀ h', Heap.ExtBut it s.heap h' → (fun (r : Option Value) s1 => r = none ∧ Inv X pins σ H s1) none { s with heap := h' } := fun h' eb => ⟨rfl, I.turned (t' := s.toks) (fun b o hb q => eb b o hb q) f0 f1 f3 f4 f5⟩
    have hT : s.TypeIs (.ref e) "enumerate" := ⟨_, he, rfl⟩
    unfold pyNext
    refine wpAny_bind (wpAny_attempt (wpAny_callSpecial?_slot (name := Str.ofString "__next__") hT F.slot_enumerate_next
      (wpAny_call_entry F.slot_enumerate_next hT F.entry_enumerate_next ?_ (F.args_enumerate_next_1 _))))
    show wpAny _ _ (field (.ref e) 2 >>= _) _ _ _
    refine wpAny_bind (wpAny_field he rfl (x := .ref it) rfl ?_)
    have stop : ∀ {Q : Value → Shared → Prop} {E' : Value → Shared → Prop}, (∀ h' e, Heap.ExtBut it s.heap h' → (∃ o, h'.get? e = some o ∧ o.cls = .type "StopIteration") → E' (.ref e) { s with heap := h' }) →
        wpAny (model X.prog X.w) X.A.in1 (Builtin.SmallTypes.nextOf (.ref it)) Q E' s := fun {Q E'} hE => by
      by_cases ha : x.cps.all (· < 128) = true
      · have et : strIterType x = "str_ascii_iterator" := by unfold strIterType; rw [if_pos ha]
        rw [et] at hit
        exact wpAny_nextOf_ascii_end hh hit hx hE
      · have et : strIterType x = "str_iterator" := by unfold strIterType; rw [if_neg ha]
        rw [et] at hit
        exact wpAny_nextOf_wide_end hh hit hx hE
    refine wpAny_bind (stop fun h' y he' hx' => ?_)
    obtain ⟨o, ho, hc'⟩ := hx'
    refine wpAny_bind (wpAny_isInstance (T := "StopIteration") (b := true) ⟨o, ho, hc'⟩ isSubtype_stop ?_)
    exact wpAny_pure (fin _ he')
  self := fun A i s Q E st h => let ⟨⟨_, he⟩, _⟩ := st; wpAny_pyIter_enum he h
def iEnumS (ta : TA) : TI := fun σ H R => ta σ H fun vs H1 => ∃ x, vs = [.str x] ∧ R (Ites x) H1
theorem pi_enumS {X : Cx} {e : Expr} {ta : TA} {p pos tpos : Pos} {elts : List Expr} {kk : Nat} (hg : Gl X "enumerate") (hm : X.mg "enumerate" = none) (ha : PA X [e] ta) (hs : starEach [e] X.env = [(false, eval e X.env)] := by rfl) :
    PI X (.Tuple elts kk tpos) (.Call (.Name "enumerate" p) [e] [] pos) (iEnumS ta) := by
  refine ⟨fun pins s σ H R I h => ?_⟩
  refine Call_ (ld_blt I hg hm boot_enumerate (PyProof.Rows.callWith_type1 (thn (ha.run pos pins s σ H _ I h) fun us s1 ⟨vs, H1, I1, r1, q1⟩ => ?_) hs rfl))
  obtain ⟨x, ex, q⟩ := q1
  subst ex
  cases r1 with
  | cons r rr =>
    cases rr
    obtain ⟨t, rfl⟩ := r
    refine call_enumerate_str fun h' he hit hsz hk => wpAny_pyIter_enum he ?_
    have I2 : Inv X pins σ H1 { s1 with heap := h' } := I1.kept (t' := s1.toks) hk
    refine ⟨s1.heap.objs.size + 1, [s1.heap.objs.size + 1, s1.heap.objs.size], _, _, H1, rfl, I2, turn_enumS x t (s1.heap.objs.size + 1) s1.heap.objs.size, ⟨⟨.none, he⟩, hit, Nat.succ_ne_self _⟩, fun b hb => ?_, q⟩
    have e' : b = s1.heap.objs.size + 1 ∨ b = s1.heap.objs.size := by simpa using hb
    have hle : s1.heap.objs.size ≤ b := by
      rcases e' with z | z
      · rw [z]; exact Nat.le_add_right _ _
      · rw [z]; exact Nat.le_refl _
    exact I1.fpOk hle (I1.hok.fresh hle)
theorem lc_enumS {x : Str} {g : TG} {tt : TT} {te : TE} {vs : List Nat} {σ : L2.St} {H1 : Hp} {D : Addr} {Qd : Hp → Prop} (Pv : Nat → Hp → Prop) (h0 : Pv 0 (upd H1 D (.lst [])))
    (hs : ∀ i c T H, x.cps[i]? = some c → H T = none → Pv i H → g (.ref T) (wipe σ vs) (upd H T (.tup [.int (i : Nat), .str ⟨#[c]⟩])) fun σ2 H2 => wipe σ2 vs = wipe σ vs ∧ tt σ2 H2 fun b H3 =>
      if b = true then te σ2 H3 fun y H4 => ∃ acc, H4 D = some (.lst acc) ∧ acc.length < sizeLine ∧ Pv (i + 1) (upd H4 D (.lst (acc ++ [y]))) else Pv (i + 1) H3) (hd : ∀ H, Pv x.cps.size H → Qd H) :
    ∃ W : Nat → Nat → Hp → Prop, (∃ m, W 0 m (upd H1 D (.lst []))) ∧ ∀ i m H, W i m H →
      ((Ites x).stop i H ∧ Qd H) ∨ ((Ites x).go i H ∧ ∃ Nx : Hp → Prop, (∀ H', Nx H' → ∃ m', m' < m ∧ W (i + 1) m' H') ∧ ∀ y H', (Ites x).yld i H y H' → g y (wipe σ vs) H' fun σ2 H2 => wipe σ2 vs = wipe σ vs ∧ tt σ2 H2 fun b H3 =>
        if b = true then te σ2 H3 fun y H4 => ∃ acc, H4 D = some (.lst acc) ∧ acc.length < sizeLine ∧ Nx (upd H4 D (.lst (acc ++ [y]))) else Nx H3) := by
  refine ⟨fun i m H => m = x.cps.size - i ∧ i ≤ x.cps.size ∧ Pv i H, ⟨x.cps.size, by simp, Nat.zero_le _, h0⟩, ?_⟩
  rintro i m H ⟨rfl, hi, p⟩
  by_cases hlt : i < x.cps.size
  · refine .inr ⟨hlt, Pv (i + 1), fun H' p' => ⟨x.cps.size - (i + 1), by omega, rfl, hlt, p'⟩, fun y H' hy => ?_⟩
    obtain ⟨T, c, rfl, hT, rfl, hc⟩ := hy
    exact hs i c T H hc hT p
  · have e : i = x.cps.size := by omega
    subst e
    exact .inl ⟨Nat.le_refl _, hd H p⟩
/-- over a range with a step -/
theorem lc_rangeC {lo c : Int} {n : Nat} {g : TG} {tt : TT} {te : TE} {vs : List Nat} {σ : L2.St} {H1 : Hp} {D : Addr} {Qd : Hp → Prop} (Pv : Nat → Hp → Prop) (h0 : Pv 0 (upd H1 D (.lst [])))
    (hs : ∀ i H, i < n → Pv i H → g (.int (lo + (i : Nat) * c)) (wipe σ vs) H fun σ2 H2 => wipe σ2 vs = wipe σ vs ∧ tt σ2 H2 fun b H3 =>
      if b = true then te σ2 H3 fun y H4 => ∃ acc, H4 D = some (.lst acc) ∧ acc.length < sizeLine ∧ Pv (i + 1) (upd H4 D (.lst (acc ++ [y]))) else Pv (i + 1) H3) (hd : ∀ H, Pv n H → Qd H) :
    ∃ W : Nat → Nat → Hp → Prop, (∃ m, W 0 m (upd H1 D (.lst []))) ∧ ∀ i m H, W i m H →
      ((Itc lo c n).stop i H ∧ Qd H) ∨ ((Itc lo c n).go i H ∧ ∃ Nx : Hp → Prop, (∀ H', Nx H' → ∃ m', m' < m ∧ W (i + 1) m' H') ∧ ∀ x H', (Itc lo c n).yld i H x H' → g x (wipe σ vs) H' fun σ2 H2 => wipe σ2 vs = wipe σ vs ∧ tt σ2 H2 fun b H3 =>
        if b = true then te σ2 H3 fun y H4 => ∃ acc, H4 D = some (.lst acc) ∧ acc.length < sizeLine ∧ Nx (upd H4 D (.lst (acc ++ [y]))) else Nx H3) := by
  refine ⟨fun i m H => m = n - i ∧ i ≤ n ∧ Pv i H, ⟨n, by simp, Nat.zero_le _, h0⟩, ?_⟩
  rintro i m H ⟨rfl, hi, p⟩
  by_cases hlt : i < n
  · refine .inr ⟨hlt, Pv (i + 1), fun H' p' => ⟨n - (i + 1), by omega, rfl, hlt, p'⟩, fun y H' hy => ?_⟩
    obtain ⟨e, hy⟩ := hy
    subst e hy
    exact hs i _ hlt p
  · have e : i = n := by omega
    subst e
    exact .inl ⟨Nat.le_refl _, hd H p⟩

/-! ### one sign * int -/
theorem foldl_rep1 (c : Nat) : ∀ (k : Nat) (acc : Array Nat), ((List.replicate k #[c]).foldl (· ++ ·) acc) = acc ++ (List.replicate k c).toArray
  | 0, acc => by simp
  | k + 1, acc => by
    rw [List.replicate_succ, List.foldl_cons, foldl_rep1 c k (acc ++ #[c])]
    apply Array.toList_inj.mp
    simp [List.replicate_succ]
theorem op_mul_sign {X : Cx} : OpR X (binaryOp .Mult) (fun x y H Q => ∃ (c : Nat) (k : Int), x = .str ⟨#[c]⟩ ∧ y = .int k ∧ 0 ≤ k ∧ k ≤ 1000 ∧ Q (.str ⟨(List.replicate k.toNat c).toArray⟩) H) := by
  intro pins s σ H x y v u Q I rx ry h
  obtain ⟨c, k, rfl, rfl, h0, h1, q⟩ := h
  obtain ⟨t, rfl⟩ := rx
  obtain ⟨t', rfl⟩ := ry
  have hl1 : (⟨#[c]⟩ : Str).length = 1 := rfl
  refine PySem.P.mul_str (by
      have a1 : ¬ k < -(2 ^ 63 : Int) := by omega
      have a2 : ¬ k ≥ 2 ^ 63 := by omega
      rw [decide_eq_false a1, decide_eq_false a2] <;> rfl) (fun h1' _ => ?_) (fun _ _ => ?_) ?_
  · rw [hl1]
    have : (1 : Int) ≤ (2 ^ 63 - 1) / k := (Int.le_ediv_iff_mul_le (by omega)).mpr (by omega)
    omega
  · rw [hl1, Nat.one_mul]
    unfold Builtin.Str.tooLong
    exact decide_eq_false (by rw [sizeLine_eq]; omega)
  · by_cases c0 : k < 1
    · rw [if_pos c0]
      have e : k = 0 := by omega
      subst e
      exact ⟨Nat.zero_le _, .str ⟨(List.replicate (0 : Int).toNat c).toArray⟩, H, I.tok _, ⟨_, rfl⟩, q⟩
    · rw [if_neg c0]
      by_cases c1 : (k == 1 || (⟨#[c]⟩ : Str).length == 0) = true
      · rw [if_pos c1]
        have e : k = 1 := by simpa [hl1] using c1
        subst e
        exact ⟨.str ⟨(List.replicate (1 : Int).toNat c).toArray⟩, H, I, ⟨t, rfl⟩, q⟩
      · rw [if_neg c1]
        have e := foldl_rep1 c k.toNat #[]
        rw [Array.empty_append] at e
        refine ⟨?_, .str ⟨(List.replicate k.toNat c).toArray⟩, H, I.tok _, ⟨s.toks, ?_⟩, q⟩
        · show ((List.replicate k.toNat #[c]).foldl (· ++ ·) #[]).size ≤ sizeLine
          rw [e, List.size_toArray, List.length_replicate, sizeLine_eq]
          omega
        · show Value.str ⟨(List.replicate k.toNat #[c]).foldl (· ++ ·) #[]⟩ _ = _
          rw [e]

/-! ### text[::-1] -/
def tRevS (te : TE) : TE := fun σ H Q => te σ H fun x H1 => ∃ z : Str, x = .str z ∧ z.length ≤ sizeLine ∧ Q (.str ⟨z.cps.toList.reverse.toArray⟩) H1
theorem rev_idx (n : Nat) : Builtin.Str.strSliceIndices none none (-1) n = (List.range n).reverse := by
  have h : Builtin.Str.strSliceIndices none none (-1) n = sliceRange ((n : Int) - 1) (-1) (-1) := rfl
  rw [h, PySem.W.krv_sliceRange, PySem.W.krv_range]
theorem pe_revS {X : Cx} {e : Expr} {te : TE} {k : Nat} {p1 p2 p3 pos : Pos} (he : PE X e te) : PE X (.Subscript e (.Slice none none (some (.UnaryOp .USub (.Constant (.int 1) k p1) p2)) p3) pos) (tRevS te) := by
  refine ⟨fun pins s σ H Q I h => ?_⟩
  refine Subscript_ (thn (he.run pins s σ H _ I h) fun v s1 ⟨x, H1, I1, r1, q1⟩ => ?_)
  obtain ⟨z, ex, hz, q⟩ := q1
  subst ex
  obtain ⟨t, rfl⟩ := r1
  have hst : PO X (some (.UnaryOp .USub (.Constant (.int 1) k p1) p2)) (tPart (tUn (rU fun i => .int (-i)) (tC (.int 1)))) := po_some (pe_un un_neg pe_int)
  refine wpAny_Slice (thn (po_none.run pins s1 σ H1 (fun o H2 => o = none ∧ H2 = H1) I1 ⟨rfl, rfl⟩) fun vl s2 ⟨l, H2, I2, pl, el, e2⟩ => ?_)
  subst el e2
  refine thn (po_none.run pins s2 σ H2 (fun o H3 => o = none ∧ H3 = H2) I2 ⟨rfl, rfl⟩) fun vu s3 ⟨u, H3, I3, pu, eu, e3⟩ => ?_
  subst eu e3
  refine thn (hst.run pins s3 σ H3 (fun o H4 => o = some (-1) ∧ H4 = H3) I3 ⟨1, rfl, -1, rfl, rfl, rfl⟩) fun vs s4 ⟨o, H4, I4, ps, eo, e4⟩ => ?_
  subst eo e4
  cases pl
  cases pu
  obtain ⟨st, rfl, est⟩ := IsPart.raw ps
  have I5 : Inv X pins σ H4 { s4 with heap := s4.heap.push { cls := .type "slice", data := .fields #[.none, .none, partValue st] } } := I4.kept (t' := s4.toks) fun b ob q => Heap.get?_push_of_some _ q
  show wpAny (model X.prog X.w) X.A (subscriptTail e (.Slice none none (some (.UnaryOp .USub (.Constant (.int 1) k p1) p2)) p3) (.str z t) (.ref s4.heap.objs.size)) (EP X pins σ Q) X.xe { s4 with heap := s4.heap.push { cls := .type "slice", data := .fields #[.none, .none, partValue st] } }
  refine tail_any (ops := [.ref s4.heap.objs.size, .str z t]) (typeIs_str _ _ _) F.slot_str_getitem.lookup ?_ (by with_unfolding_all rfl)
  refine wpAny_getItem_str_slice (l := none) (u := none) (st := st) ⟨_, Heap.get?_push_size _ rfl, rfl, rfl⟩ (by rw [est]; rfl) ?_
  unfold sliceMade slicePicked
  rw [est]
  have e1 : ((some (-1 : Int)).getD 1 == 1 && (Builtin.Str.strSliceIndices ((none : Option (Int × Tok)).map (·.1)) ((none : Option (Int × Tok)).map (·.1)) ((some (-1 : Int)).getD 1) z.length).length == z.length) = false := rfl
  rw [e1, if_neg Bool.false_ne_true]
  have e2 : (Builtin.Str.strSliceIndices ((none : Option (Int × Tok)).map (·.1)) ((none : Option (Int × Tok)).map (·.1)) ((some (-1 : Int)).getD 1) z.length).filterMap (z.cps[·]?) = z.cps.toList.reverse := by
    show (Builtin.Str.strSliceIndices none none (-1) z.cps.size).filterMap (z.cps[·]?) = _
    rw [rev_idx, List.filterMap_reverse, PySem.W.krv_all]
  rw [e2]
  refine ⟨?_, .str ⟨z.cps.toList.reverse.toArray⟩, H4, I5.tok _, ⟨_, rfl⟩, q⟩
  show z.cps.toList.reverse.toArray.size ≤ sizeLine
  rw [List.size_toArray, List.length_reverse, Array.length_toList]
  exact hz
end Tk
end

section
set_option Elab.async false
set_option maxRecDepth 100000
/-! The text by places; texts of bits; what may be called. -/
namespace Tk
open PySem PySem.Spec PyProof.Rows L2

def top_ (i : Nat) : Stmt := PySem.Challenge.pw_edgelink_k43_talks.main.body.getD i (.Pass ⟨0, 0, 0, 0⟩)

/-! ### texts of bits -/
def sg (x : Bool) : Nat := if x then 49 else 48
def bs (b : Bits) : Str := ⟨(b.map sg).toArray⟩
theorem tl_bs (b : Bits) : TL.tl (bs b) = b.map sg := rfl
theorem bs_length (b : Bits) : (bs b).length = b.length := by
  rw [TL.len_tl, tl_bs, List.length_map]
theorem bs_size (b : Bits) : (bs b).cps.size = b.length := bs_length b
theorem sg_inj {x y : Bool} (h : sg x = sg y) : x = y := by
  cases x <;> cases y <;> first | rfl | cases h
theorem map_sg_inj : ∀ {a b : Bits}, a.map sg = b.map sg → a = b
  | [], [], _ => rfl
  | [], _ :: _, h => by cases h
  | _ :: _, [], h => by cases h
  | x :: a, y :: b, h => by
    rw [List.map_cons, List.map_cons] at h
    injection h with h1 h2
    rw [sg_inj h1, map_sg_inj h2]
theorem bs_inj {a b : Bits} (h : bs a = bs b) : a = b := map_sg_inj (congrArg TL.tl h)
theorem bs_eq_iff {a b : Bits} : bs a = bs b ↔ a = b := ⟨bs_inj, fun h => by rw [h]⟩
theorem bs_append (a b : Bits) : bs (a ++ b) = bs a ++ bs b := TL.ext_tl (by rw [TL.tl_append, tl_bs, tl_bs, tl_bs, List.map_append])
theorem bs_nil : bs [] = ("" : Str) := by decide +kernel
theorem bs_0 : bs [false] = ("0" : Str) := by decide +kernel
theorem bs_1 : bs [true] = ("1" : Str) := by decide +kernel
theorem sign_bs (x : Bool) : (⟨#[sg x]⟩ : Str) = bs [x] := rfl
theorem bs_get {b : Bits} {i : Nat} {c : Nat} (h : (bs b).cps[i]? = some c) : ∃ x, b[i]? = some x ∧ c = sg x := by
  have e : (bs b).cps[i]? = (b.map sg)[i]? := by
    show ((b.map sg).toArray)[i]? = _
    rw [List.getElem?_toArray]
  rw [e, List.getElem?_map] at h
  cases q : b[i]? with
  | none => rw [q] at h; cases h
  | some x => rw [q] at h; exact ⟨x, rfl, (Option.some.inj h).symm⟩
theorem bs_at {b : Bits} {i : Nat} {x : Bool} (h : b[i]? = some x) : atI (bs b).cps.toList (i : Int) = some (sg x) := atI_nat (by
  show (b.map sg)[i]? = _
  rw [List.getElem?_map, h]
  rfl)
theorem cut_bs (b : Bits) (i j : Nat) : cutS (bs b) (some (i : Int)) (some (j : Int)) = bs ((b.drop i).take (j - i)) := by
  refine TL.ext_tl ?_
  unfold cutS
  rw [TL.tl_mk, HT.sIx_nat, HT.sIx_nat, bs_length]
  show ((b.map sg).drop (min i b.length)).take (min j b.length - min i b.length) = (((b.drop i).take (j - i)).map sg)
  rw [List.map_take, List.map_drop]
  by_cases c : i ≤ b.length
  · rw [Nat.min_eq_left c]
    by_cases d : j ≤ b.length
    · rw [Nat.min_eq_left d]
    · rw [Nat.min_eq_right (show b.length ≤ j by omega), List.take_of_length_le (by rw [List.length_drop, List.length_map]; omega), List.take_of_length_le (by rw [List.length_drop, List.length_map]; omega)]
  · rw [Nat.min_eq_right (show b.length ≤ i by omega), List.drop_eq_nil_of_le (by rw [List.length_map]; omega), List.drop_eq_nil_of_le (by rw [List.length_map]; omega), List.take_nil, List.take_nil]
theorem cut_bs_to (b : Bits) (j : Nat) : cutS (bs b) none (some (j : Int)) = bs (b.take j) := by
  refine TL.ext_tl ?_
  unfold cutS
  rw [TL.tl_mk, HT.sIx_nat, HT.sIx_none, bs_length]
  show ((b.map sg).drop 0).take (min j b.length - 0) = ((b.take j).map sg)
  rw [List.drop_zero, Nat.sub_zero, List.map_take]
  by_cases d : j ≤ b.length
  · rw [Nat.min_eq_left d]
  · rw [Nat.min_eq_right (show b.length ≤ j by omega), List.take_of_length_le (by rw [List.length_map]; omega), List.take_of_length_le (by rw [List.length_map]; omega)]
theorem cut_bs_from (b : Bits) (i : Nat) : cutS (bs b) (some (i : Int)) none = bs (b.drop i) := by
  refine TL.ext_tl ?_
  unfold cutS
  rw [TL.tl_mk, HT.sIx_nat, HT.sIx_none, bs_length]
  show ((b.map sg).drop (min i b.length)).take (b.length - min i b.length) = ((b.drop i).map sg)
  rw [List.map_drop]
  by_cases c : i ≤ b.length
  · rw [Nat.min_eq_left c, List.take_of_length_le (by rw [List.length_drop, List.length_map]; omega)]
  · rw [Nat.min_eq_right (by omega), List.drop_eq_nil_of_le (by rw [List.length_map]; omega), List.drop_eq_nil_of_le (by rw [List.length_map]; omega), List.take_nil]
theorem join_bs : ∀ l : List Bits, Txt.join ("" : Str) (l.map bs) = bs l.flatten := fun l => by
  refine TL.ext_tl ?_
  rw [TL.join_eq, TL.tl_join, List.map_map]
  have e : TL.tl ("" : Str) = [] := by decide +kernel
  rw [e, tl_bs]
  have key : ∀ l : List Bits, TL.joinL [] (l.map (TL.tl ∘ bs)) = l.flatten.map sg := by
    intro l
    induction l with
    | nil => rfl
    | cons a l ih =>
      cases l with
      | nil =>
        show TL.tl (bs a) = _
        rw [tl_bs]
        simp
      | cons b l =>
        show TL.tl (bs a) ++ ([] ++ TL.joinL [] ((b :: l).map (TL.tl ∘ bs))) = _
        rw [ih, tl_bs, List.nil_append]
        simp
  exact key l
theorem sum_lens : ∀ l : List Bits, ((l.map bs).map (·.length)).sum = l.flatten.length
  | [] => rfl
  | a :: l => by
    rw [List.map_cons, List.map_cons, List.sum_cons, sum_lens l, bs_length, List.flatten_cons, List.length_append]
theorem zer_bs (n : Nat) : (⟨(List.replicate n 48).toArray⟩ : Str) = bs (zer n) := TL.ext_tl (by
  rw [TL.tl_mk, tl_bs]
  unfold zer
  rw [List.map_replicate]
  rfl)
theorem line_pos {n : Nat} (h : n ≤ 100000) : n ≤ sizeLine := by rw [sizeLine_eq]; omega
theorem line_lt {n : Nat} (h : n ≤ 100000) : n < sizeLine := by rw [sizeLine_eq]; omega

/-! ### what may be called -/
structure Cal (P : Program) (w : World) (K : PySem.W.Frag) (mg : Str → Option Value) (base : Heap) (CX : CXT) (k : Nat) (x : Str) (sp : Sp) : Prop where
  ex : ∃ (f : Addr) (fd : FuncData) (ps : List Str), FnOk P w K mg base CX k f fd ps sp ∧ mg x = some (.ref f) ∧ PySem.W.keepIn K (.ref f) = true ∧ Binds K fd ps []
structure Met (P : Program) (w : World) (K : PySem.W.Frag) (mg : Str → Option Value) (base : Heap) (CX : CXT) (k : Nat) (C : Addr) (m : Str) (sp : Sp) : Prop where
  ex : ∃ (f : Addr) (fd : FuncData) (ps : List Str), Cls K C ∧ Meth K C m f ∧ FnOk P w K mg base CX k f fd ps sp ∧ Binds K fd ps []
structure Mak (P : Program) (w : World) (K : PySem.W.Frag) (mg : Str → Option Value) (base : Heap) (CX : CXT) (k : Nat) (x : Str) (C : Addr) (sp : Sp) : Prop where
  ex : ∃ (f : Addr) (fd : FuncData) (ps : List Str), Mk K C f ∧ FnOk P w K mg base CX k f fd ps sp ∧ mg x = some (.ref C) ∧ Binds K fd ps []
/-- a def of the module as it stands behind the top: its text, its name -/
structure Def (K : PySem.W.Frag) (mg : Str → Option Value) (x : Str) (st : Stmt) (ps : List Str) (f : Addr) (fd : FuncData) : Prop where
  fn : Fun K x x st f fd
  mgf : mg x = some (.ref f)
  bd : Binds K fd ps []
/-- a method as it stands behind the top -/
structure MDef (K : PySem.W.Frag) (C : Addr) (m qual : Str) (st : Stmt) (ps : List Str) (f : Addr) (fd : FuncData) : Prop where
  fn : Fun K m qual st f fd
  me : Meth K C m f
  bd : Binds K fd ps []
section
variable {P : Program} {w : World} {K : PySem.W.Frag} {mg : Str → Option Value} {base : Heap} {CX : CXT} {k : Nat} {sp : Sp} {x m qual : Str} {st : Stmt} {f C : Addr} {fd : FuncData} {ps : List Str}
theorem Def.cal (D : Def K mg x st ps f fd) (F : FnOk P w K mg base CX k f fd ps sp) : Cal P w K mg base CX k x sp := ⟨f, fd, ps, F, D.mgf, D.fn.kp, D.bd⟩
theorem MDef.met (D : MDef K C m qual st ps f fd) (c : Cls K C) (F : FnOk P w K mg base CX k f fd ps sp) : Met P w K mg base CX k C m sp := ⟨f, fd, ps, c, D.me, F, D.bd⟩
end
section
variable {X : Cx} {CX : CXT} {k j : Nat} {C : Addr} {x m : Str} {sp : Sp} {E : XK} {p pos apos : Pos} {e o : Expr} {es : List Expr} {ta : TE} {t : TA}
theorem pe_c (c : Cal X.prog X.w X.K X.mg X.base CX k x sp) (hr : Room j X.A) (hx : Passes CX X E) (ha : PA X (e :: es) t) (hk : k ≤ j := by decide) (hg : Gl X x := by rfl)
    (hdb : (x == ("__debug__" : Str)) = false := by decide) (he : starEach (e :: es) X.env = (false, eval e X.env) :: starEach es X.env := by rfl) (hpl : (backTo pos (starEach es X.env)).any (·.1) = false := by rfl) :
    PE X (.Call (.Name x p) (e :: es) [] pos) (tCall sp [] E t) := by
  obtain ⟨f, fd, ps, F, hm, kp, b⟩ := c.ex
  exact pe_call F (hr.mono hk) hg hm kp b .nil hx ha hdb he hpl
theorem pe_mk (c : Mak X.prog X.w X.K X.mg X.base CX k x C sp) (hr : Room j X.A) (hx : Passes CX X E) (ha : PA X (e :: es) t) (hk : k + 1 ≤ j := by decide) (hg : Gl X x := by rfl)
    (hdb : (x == ("__debug__" : Str)) = false := by decide) (he : starEach (e :: es) X.env = (false, eval e X.env) :: starEach es X.env := by rfl) (hpl : (backTo pos (starEach es X.env)).any (·.1) = false := by rfl) :
    PE X (.Call (.Name x p) (e :: es) [] pos) (tMake C sp [] E t) := by
  obtain ⟨f, fd, ps, M, F, hm, b⟩ := c.ex
  exact pe_make M F (hr.mono hk) hg hm b .nil hx ha hdb he hpl
theorem pe_mt {pl : Sem Bool} (c : Met X.prog X.w X.K X.mg X.base CX k C m sp) (hr : Room j X.A) (hx : Passes CX X E) (he : PE X o ta) (ha : PA X (e :: es) t) (hk : k ≤ j := by decide)
    (hst : starEach (e :: es) X.env = (false, eval e X.env) :: starEach es X.env := by rfl) (hpl : (backTo pos (starEach es X.env)).any (·.1) = false := by rfl)
    (ht : eval (.Call (.Attribute o m apos) (e :: es) [] pos) X.env = (do
      let ov ← eval o X.env
      standAt apos.atName
      let (f, first) ← holding [ov] (getMethod ov m pl)
      callWith pos f first (backTo pos (starEach (e :: es) X.env)) (backToKw pos (keywordEach [] X.env))) := by rfl) :
    PE X (.Call (.Attribute o m apos) (e :: es) [] pos) (tMeth C m sp [] E ta t) := by
  obtain ⟨f, fd, ps, hc, hm, F, b⟩ := c.ex
  exact pe_meth (pl := pl) he hc hm F (hr.mono hk) b .nil hx ha hst hpl ht
theorem pe_mt0 {pl : Sem Bool} (c : Met X.prog X.w X.K X.mg X.base CX k C m sp) (hr : Room j X.A) (hx : Passes CX X E) (he : PE X o ta) (hk : k ≤ j := by decide)
    (ht : eval (.Call (.Attribute o m apos) [] [] pos) X.env = (do
      let ov ← eval o X.env
      standAt apos.atName
      let (f, first) ← holding [ov] (getMethod ov m pl)
      callWith pos f first (backTo pos (starEach [] X.env)) (backToKw pos (keywordEach [] X.env))) := by rfl) :
    PE X (.Call (.Attribute o m apos) [] [] pos) (tMeth C m sp [] E ta tNil) := by
  obtain ⟨f, fd, ps, hc, hm, F, b⟩ := c.ex
  exact pe_meth0 (pl := pl) he hc hm F (hr.mono hk) b .nil hx ht
end
end Tk
end

section
set_option Elab.async false
set_option maxRecDepth 100000
set_option maxHeartbeats 4000000
/-! bits.py -/
namespace Tk
open PySem PySem.Spec PyProof.Rows L2

abbrev sBB : Stmt := top_ 2
abbrev sBitsOf : Stmt := top_ 3
abbrev sByteOf : Stmt := top_ 4
abbrev sBytesOf : Stmt := top_ 5
def vn (n : Nat) : V := .int (n : Int)
def spBB : Sp := fun vs H Q _ => ∃ n : Nat, vs = [vn n] ∧ n < 1000 ∧ Q (.str (bs (byteBits n))) H
def spBitsOf (K : PySem.W.Frag) : Sp := fun vs H Q _ => ∃ (a : Addr) (ns : List Nat), vs = [.ref a] ∧ SqL K H a (ns.map vn) ∧ ns.length ≤ 100 ∧ (∀ x ∈ ns, x < 1000) ∧ ∀ H', Same H H' → Q (.str (bs (bitsOf ns))) H'
def spByteOf : Sp := fun vs H Q _ => ∃ b : Bits, vs = [.str (bs b)] ∧ b.length ≤ 20 ∧ Q (vn (byteOf b)) H
def spBytesOf : Sp := fun vs H Q _ => ∃ b : Bits, vs = [.str (bs b)] ∧ b.length ≤ 1000 ∧ (bytesOf b = none → Q .non H) ∧
  ∀ ns, bytesOf b = some ns → ∀ p H', Same H H' → H p = none → H' p = some (.lst (ns.map vn)) → Q (.ref p) H'

theorem strs_map (l : List Bits) : l.map (fun b => V.str (bs b)) = (l.map bs).map V.str := by
  rw [List.map_map]
  rfl
theorem for_str {x : Str} {g : TG} {tb : TS} {D : Ends} {σ : L2.St} {H : Hp} (Pv : Nat → L2.St → Hp → Prop) (h0 : Pv 0 σ H)
    (hs : ∀ i c σ H, x.cps[i]? = some c → Pv i σ H → g (.str ⟨#[c]⟩) σ H fun σ2 H2 => tb { D with nx := Pv (i + 1), ct := Pv (i + 1), bk := D.nx } σ2 H2) (hd : ∀ σ H, Pv x.cps.size σ H → D.nx σ H) :
    ∃ W : Nat → Nat → L2.St → Hp → Prop, (∃ m, W 0 m σ H) ∧ ∀ i m σ H, W i m σ H →
      ((Its x).stop i H ∧ D.nx σ H) ∨ ((Its x).go i H ∧ ∃ N : L2.St → Hp → Prop, (∀ σ' H', N σ' H' → ∃ m', m' < m ∧ W (i + 1) m' σ' H') ∧ ∀ v H', (Its x).yld i H v H' → g v σ H' fun σ2 H2 => tb { D with nx := N, ct := N, bk := D.nx } σ2 H2) := by
  refine ⟨fun i m σ H => m = x.cps.size - i ∧ i ≤ x.cps.size ∧ Pv i σ H, ⟨x.cps.size, by simp, Nat.zero_le _, h0⟩, ?_⟩
  rintro i m σ H ⟨rfl, hi, p⟩
  by_cases hlt : i < x.cps.size
  · refine .inr ⟨hlt, Pv (i + 1), fun σ' H' p' => ⟨x.cps.size - (i + 1), by omega, rfl, hlt, p'⟩, fun v H' y => ?_⟩
    obtain ⟨e, c, hc, rfl⟩ := y
    subst e
    exact hs i c σ _ hc p
  · have e : i = x.cps.size := by omega
    subst e
    exact .inl ⟨Nat.le_refl _, hd σ H p⟩
theorem fitsLong {i : Int} (h1 : -(2 ^ 63) ≤ i) (h2 : i < 2 ^ 63) : Builtin.Range.rangeFitsLong i = true := by
  unfold Builtin.Range.rangeFitsLong
  rw [decide_eq_true h1, decide_eq_true h2]
  rfl
theorem rgc8 {n : Nat} (h : n ≤ 1000) : RgC 0 ((8 * n : Nat) : Int) 8 n := by
  have e : Builtin.Range.rangeSize 0 ((8 * n : Nat) : Int) 8 = n := by
    unfold Builtin.Range.rangeSize
    rw [if_pos (show (8 : Int) > 0 by decide)]
    split <;> omega
  refine ⟨by decide, by decide, ?_, e⟩
  unfold Builtin.Range.small
  rw [e, if_pos (show (8 : Int) > 0 by decide), fitsLong (i := 0) (by decide) (by decide), fitsLong (i := ((8 * n : Nat) : Int)) (by omega) (by omega), fitsLong (i := 8) (by decide) (by decide), fitsLong (i := (n : Int)) (by omega) (by omega), fitsLong (i := ((8 * n : Nat) : Int) + (8 - 1)) (by omega) (by omega), Bool.or_true]
  rfl
section
variable {P : Program} {w : World} {K : PySem.W.Frag} {mg : Str → Option Value} {base : Heap}
theorem scBB : FnScope ["number", "found", "place"] ["number"] (defScope sBB) := ⟨rfl, rfl, rfl, by decide +kernel, rfl, by decide +kernel, by decide +kernel⟩
theorem bitsN_div (k n : Nat) : bitsN (k + 1) n = bitsN k n ++ [decide (n / 2 ^ k % 2 = 1)] := rfl
theorem str_bit (m : Nat) : (toString (((m % 2 : Nat) : Int)) : Str) = bs [decide (m % 2 = 1)] := by
  have h : m % 2 = 0 ∨ m % 2 = 1 := by omega
  rcases h with h | h
  · rw [h]; decide +kernel
  · rw [h]; decide +kernel
theorem ok_bb {f : Addr} {fd : FuncData} (D : Def K mg "byte_bits" sBB ["number"] f fd) (hB : ∃ t, mg "BYTE_SIZE" = some (.int 8 t)) (gR : mg "range" = none) (gS : mg "str" = none) : FnOk P w K mg base CX0 1 f fd ["number"] spBB := by
  refine D.fn.ok scBB (fun vs H Q E h => ?_) (fun cdv A outer s H vs Q E hr h => ?_)
  · obtain ⟨n, rfl, _⟩ := h
    rfl
  · obtain ⟨n, rfl, hn, k⟩ := h
    obtain ⟨t, hB⟩ := hB
    refine ⟨_, pss_cons (ps_set (i := 1) scBB.nd rfl (Or.inl rfl) pe_str)
      (pss_cons (ps_for PassesOwn.never rfl (pi_range1 (by rfl) gR (pa_cons (pe_glob (v := .int 8) rfl hB ⟨_, rfl⟩) pa_nil)) (pg_name (i := 2) scBB.nd rfl (Or.inl rfl))
        (pss_cons (ps_set (i := 1) scBB.nd rfl (Or.inl rfl) (pe_op op_add_str (pv 1) (pe_callTy call_str_int (by rfl) gS (by decide +kernel) (pa_cons (pe_op op_mod (pv 0) pe_int) pa_nil))))
        (pss_one (ps_set (i := 0) scBB.nd rfl (Or.inl rfl) (pe_op op_fdiv (pv 0) pe_int)))))
      (pss_one (ps_ret (pv 1)))), ?_⟩
    refine ⟨8, rfl, by decide, by decide, for_range (n := 8) (fun i σ H' => H' = H ∧ ∃ v, σ = [some (vn (n / 2 ^ i)), some (.str (bs (bitsN i n))), v] ∧ i ≤ 8) ⟨rfl, none, ?_, by decide⟩ ?_ ?_⟩
    · show [some (vn n), some (V.str ("" : Str)), none] = _
      rw [Nat.pow_zero, Nat.div_one, ← bs_nil]
      rfl
    · rintro i σ H' hi ⟨rfl, v, rfl, _⟩
      have e2 : ((n / 2 ^ i : Nat) : Int) % 2 = ((n / 2 ^ i % 2 : Nat) : Int) := by omega
      have e3 : ((n / 2 ^ i : Nat) : Int) / 2 = ((n / 2 ^ (i + 1) : Nat) : Int) := by
        rw [Nat.pow_succ, ← Nat.div_div_eq_div_mul]
        omega
      have hm : n / 2 ^ i % 2 < 2 := Nat.mod_lt _ (by decide)
      refine ⟨_, rfl, _, rfl, _, _, rfl, rfl, (by show (0 : Int) < 2; decide), ((n / 2 ^ i % 2 : Nat) : Int), congrArg (fun z => [V.int z]) e2, ?_, _, _, rfl, rfl, ?_, _, rfl, _, _, rfl, rfl, ⟨by decide, by decide⟩, rfl, some (.int (0 + i)), ?_, by omega⟩
      · rw [Int.natAbs_natCast]
        have h01 : n / 2 ^ i % 2 = 0 ∨ n / 2 ^ i % 2 = 1 := by omega
        rcases h01 with q | q
        · rw [q]; decide
        · rw [q]; decide
      · rw [str_bit, bs_length, bs_length, bitsN_length]
        exact line_pos (by simp only [List.length_cons, List.length_nil]; omega)
      · show [some (V.int (((n / 2 ^ i : Nat) : Int) / 2)), some (V.str (bs (bitsN i n) ++ (toString (((n / 2 ^ i % 2 : Nat) : Int)) : Str))), some (V.int (0 + i))] = _
        rw [e3, str_bit, ← bs_append, bitsN_div]
        rfl
    · rintro σ H' ⟨rfl, v, rfl, _⟩
      exact ⟨_, rfl, k⟩

/-! bits_of: slots numbers, number (the comprehension's) -/
theorem scBitsOf : FnScope ["numbers", "number"] ["numbers"] (defScope sBitsOf) := ⟨rfl, rfl, rfl, by decide +kernel, rfl, by decide +kernel, by decide +kernel⟩
theorem flat_take {ns : List Nat} {i n : Nat} (h : ns[i]? = some n) : ((ns.take (i + 1)).map byteBits) = (ns.take i).map byteBits ++ [byteBits n] := by
  rw [List.take_add_one, h, List.map_append]
  rfl
theorem ok_bitsOf {f : Addr} {fd : FuncData} (D : Def K mg "bits_of" sBitsOf ["numbers"] f fd) (cB : Cal P w K mg base CX0 1 "byte_bits" spBB) : FnOk P w K mg base CX0 2 f fd ["numbers"] (spBitsOf K) := by
  refine D.fn.ok scBitsOf (fun vs H Q E h => ?_) (fun cdv A outer s H vs Q E hr h => ?_)
  · obtain ⟨a, ns, rfl, _⟩ := h
    rfl
  · obtain ⟨a, ns, rfl, hS, hl, hx, k⟩ := h
    refine ⟨_, pss_one (ps_ret (pe_join pe_str (pe_lc (own := [("number", 1)]) (g := gName 1) (tt := tYes) rfl scBitsOf.nd (pi_list (pv 0)) (blkOk_by (N := ["numbers", "number"]) (sc := defScope sBitsOf) (by decide +kernel))
      (fun _ _ _ _ _ => pg_name (i := 1) scBitsOf.nd rfl (Or.inl rfl)) (fun _ _ _ _ _ => pts_nil) (fun _ _ _ _ _ => pe_c cB hr pass0 (pa_cons (pv 1) pa_nil))))), ?_⟩
    refine ⟨⟨_, rfl⟩, _, rfl, a, rfl, ⟨_, hS⟩, fun D hD => ?_⟩
    refine lc_list (K := K) (a := a) (xs := ns.map vn) (fun i H' => Same H H' ∧ H' D = some (.lst (((ns.take i).map byteBits).map fun b => V.str (bs b)))) ⟨fun b o e => by rw [upd_ne (ne_of_none e hD)]; exact e, upd_same⟩ (fun i H' _ ⟨s1, _⟩ => s1.seq hS) ?_ ?_
    · rintro i x H' hi ⟨s1, hd⟩
      obtain ⟨n, hn, rfl⟩ : ∃ n, ns[i]? = some n ∧ x = vn n := by
        rw [List.getElem?_map] at hi
        cases e : ns[i]? with
        | none => rw [e] at hi; cases hi
        | some n => rw [e] at hi; exact ⟨n, rfl, (Option.some.inj hi).symm⟩
      refine ⟨rfl, _, rfl, n, rfl, hx n (List.mem_of_getElem? hn), _, hd, ?_, ?_, ?_⟩
      · rw [List.length_map, List.length_map, List.length_take]
        exact line_lt (by omega)
      · intro b o e
        rw [upd_ne (ne_of_none e hD)]
        exact s1 b o e
      · rw [upd_same, flat_take hn, List.map_append]
        rfl
    · rintro H' ⟨s1, hd⟩
      rw [List.length_map, List.take_length] at hd
      rw [strs_map] at hd
      refine ⟨_, D, (ns.map byteBits).map bs, rfl, rfl, .inl (SqL.of hd), ?_, ?_⟩
      · have e0 : (("" : Str)).length = 0 := by decide +kernel
        rw [sum_lens, e0]
        have := bitsOf_length ns
        unfold bitsOf at this
        rw [this]
        omega
      · rw [join_bs]
        exact k H' s1

/-! byte_of: slots bits, number, bit -/
theorem scByteOf : FnScope ["bits", "number", "bit"] ["bits"] (defScope sByteOf) := ⟨rfl, rfl, rfl, by decide +kernel, rfl, by decide +kernel, by decide +kernel⟩
theorem rev_bs (b : Bits) : (⟨(bs b).cps.toList.reverse.toArray⟩ : Str) = bs b.reverse := TL.ext_tl (by
  rw [TL.tl_mk, tl_bs, List.map_reverse]
  rfl)
theorem int_bit (x : Bool) : PySem.intText? (⟨#[sg x]⟩ : Str) = some (if x then 1 else 0) := by cases x <;> decide +kernel
theorem byte_fold {b : Bits} {i : Nat} {x : Bool} (h : b[i]? = some x) : (b.take (i + 1)).foldl bitStep 0 = bitStep ((b.take i).foldl bitStep 0) x := by
  rw [List.take_add_one, h, List.foldl_append]
  rfl
theorem ok_byteOf {f : Addr} {fd : FuncData} (D : Def K mg "byte_of" sByteOf ["bits"] f fd) (gI : mg "int" = none) : FnOk P w K mg base CX0 1 f fd ["bits"] spByteOf := by
  refine D.fn.ok scByteOf (fun vs H Q E h => ?_) (fun cdv A outer s H vs Q E hr h => ?_)
  · obtain ⟨b, rfl, _⟩ := h
    rfl
  · obtain ⟨b, rfl, hl, k⟩ := h
    refine ⟨_, pss_cons (ps_set (i := 1) scByteOf.nd rfl (Or.inl rfl) pe_int)
      (pss_cons (ps_for PassesOwn.never rfl (pi_str (pe_revS (pv 0))) (pg_name (i := 2) scByteOf.nd rfl (Or.inl rfl))
        (pss_one (ps_set (i := 1) scByteOf.nd rfl (Or.inl rfl) (pe_op op_add (pe_op op_mul pe_int (pv 1)) (pe_callTy call_int_str (by rfl) gI (by decide +kernel) (pa_cons (pv 2) pa_nil))))))
      (pss_one (ps_ret (pv 1)))), ?_⟩
    refine ⟨_, rfl, _, rfl, line_pos (by rw [bs_length]; omega), _, rfl, ?_⟩
    rw [rev_bs]
    refine for_str (fun i σ H' => H' = H ∧ ∃ v, σ = [some (.str (bs b)), some (vn ((b.reverse.take i).foldl bitStep 0)), v]) ⟨rfl, none, rfl⟩ ?_ ?_
    · rintro i c σ H' hc ⟨rfl, v, rfl⟩
      obtain ⟨x, hx, rfl⟩ := bs_get hc
      refine ⟨_, rfl, _, _, rfl, rfl, .inl ⟨by decide, by decide⟩, _, rfl, _, _, rfl, int_bit x, (by show 1 ≤ 640; decide), _, _, rfl, rfl, rfl, some (.str ⟨#[sg x]⟩), ?_⟩
      show [some (.str (bs b)), some (V.int (2 * (((b.reverse.take i).foldl bitStep 0 : Nat) : Int) + (if x = true then 1 else 0))), some (.str ⟨#[sg x]⟩)] = _
      rw [byte_fold hx]
      unfold bitStep vn
      cases x
      · simp
      · simp
    · rintro σ H' ⟨rfl, v, rfl⟩
      rw [bs_size, List.take_length]
      exact ⟨_, rfl, k⟩

/-! bytes_of: slots bits, at (the comprehension's) -/
theorem scBytesOf : FnScope ["bits", "at"] ["bits"] (defScope sBytesOf) := ⟨rfl, rfl, rfl, by decide +kernel, rfl, by decide +kernel, by decide +kernel⟩
theorem ok_bytesOf {f : Addr} {fd : FuncData} (D : Def K mg "bytes_of" sBytesOf ["bits"] f fd) (cB : Cal P w K mg base CX0 1 "byte_of" spByteOf) (hB : ∃ t, mg "BYTE_SIZE" = some (.int 8 t)) (gL : mg "len" = none) (gR : mg "range" = none) :
    FnOk P w K mg base CX0 2 f fd ["bits"] spBytesOf := by
  refine D.fn.ok scBytesOf (fun vs H Q E h => ?_) (fun cdv A outer s H vs Q E hr h => ?_)
  · obtain ⟨b, rfl, _⟩ := h
    rfl
  · obtain ⟨b, rfl, hl, kN, kS⟩ := h
    obtain ⟨t, hB⟩ := hB
    refine ⟨_, pss_cons (ps_if (pt_cmpR op_ne (pe_op op_mod (pe_callB call_len_str (by rfl) gL boot_len (pa_cons (pv 0) pa_nil)) (pe_glob (v := .int 8) rfl hB ⟨_, rfl⟩)) pe_int (nomark _)) (pss_one (ps_ret pe_non)) pss_nil)
      (pss_one (ps_ret (pe_lc (own := [("at", 1)]) (g := gName 1) (tt := tYes) rfl scBytesOf.nd
        (pi_range3 (by rfl) gR (pa_cons pe_int (pa_cons (pe_callB call_len_str (by rfl) gL boot_len (pa_cons (pv 0) pa_nil)) (pa_cons (pe_glob (v := .int 8) rfl hB ⟨_, rfl⟩) pa_nil))))
        (blkOk_by (N := ["bits", "at"]) (sc := defScope sBytesOf) (by decide +kernel))
        (fun _ _ _ _ _ => pg_name (i := 1) scBytesOf.nd rfl (Or.inl rfl)) (fun _ _ _ _ _ => pts_nil)
        (fun _ _ _ _ _ => pe_c cB hr pass0 (pa_cons (pe_slice sl_str (pv 0) (po_some (pv 1)) (po_some (pe_op op_add (pv 1) (pe_glob (v := .int 8) rfl hB ⟨_, rfl⟩)))) pa_nil))))), ?_⟩
    refine ⟨_, rfl, _, rfl, line_pos (by rw [bs_length]; omega), _, _, rfl, rfl, (by show (0 : Int) < 8; decide), rfl, _, rfl, ?_⟩
    rw [bs_length]
    by_cases c : b.length % 8 = 0
    · have c' : decide (V.int ((b.length : Int) % 8) = V.int 0) = true := decide_eq_true (by rw [show (b.length : Int) % 8 = 0 by omega])
      show if (!decide (V.int ((b.length : Int) % 8) = V.int 0)) = true then _ else _
      rw [c']
      refine iteF ?_
      obtain ⟨n, hn⟩ : ∃ n, b.length = 8 * n := ⟨b.length / 8, by omega⟩
      have hb : bytesOf b = some ((List.range n).map fun i => byteOf ((b.drop (8 * i)).take 8)) := by
        unfold bytesOf
        rw [if_pos c, show b.length / 8 = n by omega]
      refine ⟨_, rfl, _, rfl, line_pos (by rw [bs_length]; omega), 0, _, 8, n, rfl, (by rw [bs_length, hn]; exact rgc8 (by omega)), fun D hD => ?_⟩
      refine lc_rangeC (fun i H' => Same H H' ∧ H' D = some (.lst (((List.range i).map fun i => byteOf ((b.drop (8 * i)).take 8)).map vn))) ⟨fun b o e => by rw [upd_ne (ne_of_none e hD)]; exact e, upd_same⟩ ?_ ?_
      · rintro i H' hi ⟨s1, hd⟩
        have e1 : (0 : Int) + ((i : Nat) : Int) * 8 = ((8 * i : Nat) : Int) := by omega
        refine ⟨rfl, _, rfl, _, rfl, _, rfl, _, rfl, _, _, rfl, rfl, _, rfl, _, rfl, line_pos (by rw [bs_length]; omega), (b.drop (8 * i)).take 8, ?_, ?_, _, hd, ?_, ?_, ?_⟩
        · show [V.str (cutS (bs b) (some (0 + ((i : Nat) : Int) * 8)) (some (0 + ((i : Nat) : Int) * 8 + 8)))] = _
          rw [e1, show ((8 * i : Nat) : Int) + 8 = ((8 * i + 8 : Nat) : Int) by omega, cut_bs, show 8 * i + 8 - 8 * i = 8 by omega]
        · rw [List.length_take]; omega
        · rw [List.length_map, List.length_map, List.length_range]
          exact line_lt (by omega)
        · intro b o e
          rw [upd_ne (ne_of_none e hD)]
          exact s1 b o e
        · rw [upd_same, List.range_succ, List.map_append, List.map_append]
          rfl
      · rintro H' ⟨s1, hd⟩
        exact kS _ hb D H' s1 hD hd
    · have c' : decide (V.int ((b.length : Int) % 8) = V.int 0) = false := decide_eq_false (by
        intro z
        injection z with z
        omega)
      show if (!decide (V.int ((b.length : Int) % 8) = V.int 0)) = true then _ else _
      rw [c']
      refine iteT ?_
      exact kN (by unfold bytesOf; rw [if_neg c])
end
end Tk
end

section
set_option Elab.async false
set_option maxRecDepth 100000
set_option maxHeartbeats 4000000
/-! checks.py -/
namespace Tk
open PySem PySem.Spec PyProof.Rows L2

abbrev sAdded : Stmt := top_ 7
abbrev sRem : Stmt := top_ 8
abbrev sCheck : Stmt := top_ 9
abbrev sIntact : Stmt := top_ 10
abbrev sPack : Stmt := top_ 11
abbrev sUnpack : Stmt := top_ 12
def vb (b : Bits) : V := .str (bs b)
def spAdded : Sp := fun vs H Q _ => ∃ a b : Bits, vs = [vb a, vb b] ∧ a.length = b.length ∧ a.length ≤ 1000 ∧ ∀ H', Same H H' → Q (vb (xorB a b)) H'
def spRem : Sp := fun vs H Q _ => ∃ g b : Bits, vs = [vb g, vb b] ∧ 1 ≤ g.length ∧ g.length ≤ b.length + 1 ∧ b.length ≤ 900 ∧ ∀ H', Same H H' → Q (vb (remainder g b)) H'
def spCheck : Sp := fun vs H Q _ => ∃ g b : Bits, vs = [vb g, vb b] ∧ Gen g ∧ b.length ≤ 800 ∧ ∀ H', Same H H' → Q (vb (checkBits g b)) H'
def spIntact : Sp := fun vs H Q _ => ∃ g b : Bits, vs = [vb g, vb b] ∧ Gen g ∧ b.length ≤ 800 ∧ ∀ H', Same H H' → Q (.bl (isIntact g b)) H'
def spPack (K : PySem.W.Frag) : Sp := fun vs H Q _ => ∃ (g : Bits) (a : Addr) (ns : List Nat), vs = [vb g, .ref a] ∧ Gen g ∧ SqL K H a (ns.map vn) ∧ ns.length ≤ 100 ∧ (∀ x ∈ ns, x < 1000) ∧ ∀ H', Same H H' → Q (vb (pack g ns)) H'
def spUnpack : Sp := fun vs H Q _ => ∃ g b : Bits, vs = [vb g, vb b] ∧ Gen g ∧ b.length ≤ 800 ∧ (unpack g b = none → ∀ H', Same H H' → Q .non H') ∧
  ∀ ns, unpack g b = some ns → ∀ p H', Same H H' → H p = none → H' p = some (.lst (ns.map vn)) → Q (.ref p) H'

section
variable {P : Program} {w : World} {K : PySem.W.Frag} {mg : Str → Option Value} {base : Heap}
/-! added: slots one, two, at, bit -/
theorem scAdded : FnScope ["one", "two", "at", "bit"] ["one", "two"] (defScope sAdded) := ⟨rfl, rfl, rfl, by decide +kernel, rfl, by decide +kernel, by decide +kernel⟩
theorem xor_get {a b : Bits} {i : Nat} {x y : Bool} (ha : a[i]? = some x) (hb : b[i]? = some y) : (xorB a b)[i]? = some (x != y) := by
  unfold xorB
  rw [List.getElem?_zipWith, ha, hb]
theorem take_next {α : Type} {l : List α} {i : Nat} {x : α} (h : l[i]? = some x) : l.take (i + 1) = l.take i ++ [x] := by
  rw [List.take_add_one, h]
  rfl
theorem eq_bits {x y : Bool} : decide (V.str (bs [x]) = V.str (bs [y])) = (x == y) := by
  cases x <;> cases y <;> decide +kernel
theorem singles : ∀ l : Bits, (l.map fun x => [x]).flatten = l
  | [] => rfl
  | x :: l => by
    rw [List.map_cons, List.flatten_cons, singles l]
    rfl
theorem ok_added {f : Addr} {fd : FuncData} (D : Def K mg "added" sAdded ["one", "two"] f fd) (gE : mg "enumerate" = none) : FnOk P w K mg base CX0 1 f fd ["one", "two"] spAdded := by
  refine D.fn.ok scAdded (fun vs H Q E h => ?_) (fun cdv A outer s H vs Q E hr h => ?_)
  · obtain ⟨a, b, rfl, _⟩ := h
    rfl
  · obtain ⟨a, b, rfl, hab, hl, k⟩ := h
    refine ⟨_, pss_one (ps_ret (pe_join pe_str (pe_lc (own := [("at", 2), ("bit", 3)]) (g := gTup K 2 (gCons (gName 2) (gCons (gName 3) gNil))) (tt := tYes) rfl scAdded.nd
      (pi_enumS (by rfl) gE (pa_cons (pv 0) pa_nil)) (blkOk_by (N := ["one", "two", "at", "bit"]) (sc := defScope sAdded) (by decide +kernel))
      (fun _ _ _ _ _ => pg_tup rfl (pgs_cons (pg_name (i := 2) scAdded.nd rfl (Or.inl rfl)) (pgs_cons (pg_name (i := 3) scAdded.nd rfl (Or.inl rfl)) pgs_nil))) (fun _ _ _ _ _ => pts_nil)
      (fun _ _ _ _ _ => pe_ifExp (pt_cmpR op_eq (pv 3) (pe_ix ix_str (pv 1) (pv 2) (fun _ _ => rfl)) (nomark _)) pe_str pe_str)))), ?_⟩
    refine ⟨⟨_, rfl⟩, _, rfl, bs a, rfl, fun D hD => ?_⟩
    refine lc_enumS (fun i H' => Same H H' ∧ H' D = some (.lst (((xorB a b).take i).map fun x => V.str (bs [x])))) ⟨fun b o e => by rw [upd_ne (ne_of_none e hD)]; exact e, upd_same⟩ ?_ ?_
    · rintro i c T H' hc hT ⟨s1, hd⟩
      obtain ⟨x, hx, rfl⟩ := bs_get hc
      have hi : i < b.length := by
        have := (List.getElem?_eq_some_iff.mp hx).1
        omega
      obtain ⟨y, hy⟩ : ∃ y, b[i]? = some y := ⟨b[i], List.getElem?_eq_getElem hi⟩
      have hdT : D ≠ T := ne_of_none hd hT
      have s2 : Same H (upd H' T (.tup [.int (i : Nat), .str ⟨#[sg x]⟩])) := fun b o e => by
        rw [upd_ne (ne_of_none (s1 b o e) hT)]
        exact s1 b o e
      refine ⟨T, _, rfl, SqT.of upd_same, rfl, _, _, rfl, _, _, rfl, ⟨rfl, ?_⟩⟩
      refine ⟨rfl, _, rfl, _, rfl, _, rfl, bs b, _, sg y, rfl, rfl, line_pos (by rw [bs_length]; omega), bs_at hy, rfl, _, rfl, ?_⟩
      have hz : decide (V.str (⟨#[sg x]⟩ : Str) = V.str (⟨#[sg y]⟩ : Str)) = (x == y) := eq_bits
      have fin : ∀ z : Str, z = bs [x != y] → ∃ acc, (upd H' T (.tup [.int (i : Nat), .str ⟨#[sg x]⟩])) D = some (.lst acc) ∧ acc.length < sizeLine ∧
          (fun i H' => Same H H' ∧ H' D = some (.lst (((xorB a b).take i).map fun x => V.str (bs [x])))) (i + 1) (upd (upd H' T (.tup [.int (i : Nat), .str ⟨#[sg x]⟩])) D (.lst (acc ++ [V.str z]))) := fun z hz => by
        refine ⟨_, by rw [upd_ne hdT]; exact hd, ?_, ?_, ?_⟩
        · rw [List.length_map, List.length_take]
          exact line_lt (by rw [xorB_length hab]; omega)
        · intro b o e
          rw [upd_ne (ne_of_none e hD)]
          exact s2 b o e
        · rw [upd_same, take_next (xor_get hx hy), List.map_append, hz]
          rfl
      show if decide (V.str (⟨#[sg x]⟩ : Str) = V.str (⟨#[sg y]⟩ : Str)) = true then _ else _
      rw [hz]
      by_cases c : x = y
      · subst c
        rw [beq_self_eq_true]
        refine iteT (fin _ ?_)
        rw [← bs_0]
        cases x <;> rfl
      · have c' : (x == y) = false := beq_eq_false_iff_ne.mpr c
        rw [c']
        refine iteF (fin _ ?_)
        rw [← bs_1]
        cases x <;> cases y <;> first | rfl | exact absurd rfl c
    · rintro H' ⟨s1, hd⟩
      rw [bs_size, ← xorB_length hab, List.take_length] at hd
      have ez : (xorB a b).map (fun x => V.str (bs [x])) = (((xorB a b).map fun x => [x]).map bs).map V.str := by rw [List.map_map, List.map_map]; rfl
      rw [ez] at hd
      refine ⟨_, D, ((xorB a b).map fun x => [x]).map bs, rfl, rfl, .inl (SqL.of hd), ?_, ?_⟩
      · have e0 : (("" : Str)).length = 0 := by decide +kernel
        rw [sum_lens, e0, singles, xorB_length hab]
        omega
      · rw [join_bs, singles]
        exact k H' s1

/-! remainder: slots generator, bits, size, rest, at -/
theorem scRem : FnScope ["generator", "bits", "size", "rest", "at"] ["generator", "bits"] (defScope sRem) := ⟨rfl, rfl, rfl, by decide +kernel, rfl, by decide +kernel, by decide +kernel⟩
theorem ok_rem {f : Addr} {fd : FuncData} (D : Def K mg "remainder" sRem ["generator", "bits"] f fd) (cA : Cal P w K mg base CX0 1 "added" spAdded) (gL : mg "len" = none) (gR : mg "range" = none) : FnOk P w K mg base CX0 2 f fd ["generator", "bits"] spRem := by
  refine D.fn.ok scRem (fun vs H Q E h => ?_) (fun cdv A outer s H vs Q E hr h => ?_)
  · obtain ⟨g, b, rfl, _⟩ := h
    rfl
  · obtain ⟨g, b, rfl, h1, h2, hl, k⟩ := h
    refine ⟨_, pss_cons (ps_set (i := 2) scRem.nd rfl (Or.inl rfl) (pe_callB call_len_str (by rfl) gL boot_len (pa_cons (pv 0) pa_nil)))
      (pss_cons (ps_set (i := 3) scRem.nd rfl (Or.inl rfl) (pv 1))
      (pss_cons (ps_for PassesOwn.never rfl (pi_range1 (by rfl) gR (pa_cons (pe_op op_add (pe_op op_sub (pe_callB call_len_str (by rfl) gL boot_len (pa_cons (pv 1) pa_nil)) (pv 2)) pe_int) pa_nil)) (pg_name (i := 4) scRem.nd rfl (Or.inl rfl))
        (pss_one (ps_if (pt_cmpR op_eq (pe_ix ix_str (pv 3) (pv 4) (fun _ _ => rfl)) pe_str (nomark _))
          (pss_one (ps_set (i := 3) scRem.nd rfl (Or.inl rfl) (pe_op op_add_str (pe_op op_add_str (pe_slice sl_str (pv 3) po_none (po_some (pv 4)))
            (pe_c cA hr pass0 (pa_cons (pe_slice sl_str (pv 3) (po_some (pv 4)) (po_some (pe_op op_add (pv 4) (pv 2)))) (pa_cons (pv 0) pa_nil))))
            (pe_slice sl_str (pv 3) (po_some (pe_op op_add (pv 4) (pv 2))) po_none)))) pss_nil)))
      (pss_one (ps_ret (pe_slice sl_str (pv 3) (po_some (pe_op op_add (pe_op op_sub (pe_callB call_len_str (by rfl) gL boot_len (pa_cons (pv 3) pa_nil)) (pv 2)) pe_int)) po_none))))), ?_⟩
    have lb := bs_length b
    have lg := bs_length g
    refine ⟨_, rfl, bs g, rfl, line_pos (by omega), _, rfl, _, rfl, bs b, rfl, line_pos (by omega), _, rfl, _, _, rfl, rfl, _, _, rfl, rfl, (b.length : Int) - (g.length : Int) + 1, ?_, by omega, by omega, ?_⟩
    · show [V.int (((bs b).length : Int) - ((bs g).length : Int) + 1)] = _
      rw [lb, lg]
    have en : ((b.length : Int) - (g.length : Int) + 1).toNat = b.length + 1 - g.length := by omega
    rw [en]
    refine for_range (lo := 0) (n := b.length + 1 - g.length) (fun i σ H' => Same H H' ∧ i ≤ b.length + 1 - g.length ∧ ∃ v, σ = [some (vb g), some (vb b), some (vn g.length), some (vb ((List.range i).foldl (remStep g) b)), v]) ⟨Same.refl H, Nat.zero_le _, none, ?_⟩ ?_ ?_
    · show [some (vb g), some (vb b), some (V.int ((bs g).length : Int)), some (vb b), none] = _
      rw [lg]
      rfl
    · rintro i σ H' hi ⟨s1, _, v, rfl⟩
      generalize hrest : (List.range i).foldl (remStep g) b = rest
      have lr : rest.length = b.length := by rw [← hrest]; exact fold_length g b h2 i (by omega)
      have nxt : (List.range (i + 1)).foldl (remStep g) b = remStep g rest i := by
        rw [List.range_succ, List.foldl_append, hrest]
        rfl
      obtain ⟨x, hx⟩ : ∃ x, rest[i]? = some x := ⟨rest[i]'(by omega), List.getElem?_eq_getElem (by omega)⟩
      have ei : (0 : Int) + ((i : Nat) : Int) = (i : Int) := by omega
      have lbr := bs_length rest
      refine ⟨_, rfl, _, rfl, bs rest, _, sg x, rfl, rfl, line_pos (by omega), (by rw [ei]; exact bs_at hx), rfl, _, rfl, ?_⟩
      have hz : decide (V.str (⟨#[sg x]⟩ : Str) = V.str ("1" : Str)) = x := by
        rw [← bs_1]
        cases x <;> decide +kernel
      rw [hz]
      cases x with
      | false =>
        refine iteF ⟨s1, by omega, some (.int (0 + (i : Int))), ?_⟩
        rw [nxt]
        unfold remStep
        rw [hx, if_neg (by decide)]
        rfl
      | true =>
        have e1 : ((i : Int) + (g.length : Int)) = ((i + g.length : Nat) : Int) := by omega
        have lt1 : ((rest.drop i).take g.length).length = g.length := by rw [List.length_take, List.length_drop]; omega
        refine iteT ⟨_, rfl, _, rfl, _, rfl, bs rest, rfl, line_pos (by omega), _, rfl, _, rfl, _, rfl, _, rfl, _, rfl, _, _, rfl, rfl, _, rfl, bs rest, rfl, line_pos (by omega), _, rfl, (rest.drop i).take g.length, g, ?_, lt1, by omega, fun H2 s2 => ?_⟩
        · show [V.str (cutS (bs rest) (some (0 + (i : Int))) (some (0 + (i : Int) + (g.length : Int)))), vb g] = _
          rw [ei, e1, cut_bs, show i + g.length - i = g.length by omega]
          rfl
        · have lx : (xorB ((rest.drop i).take g.length) g).length = g.length := by rw [xorB_length lt1, lt1]
          have c1 : cutS (bs rest) none (some (0 + (i : Int))) = bs (rest.take i) := by rw [ei, cut_bs_to]
          have c2 : cutS (bs rest) (some (0 + (i : Int) + (g.length : Int))) none = bs (rest.drop (i + g.length)) := by rw [ei, e1, cut_bs_from]
          refine ⟨_, _, rfl, rfl, ?_, _, rfl, _, rfl, _, rfl, _, _, rfl, rfl, _, rfl, bs rest, rfl, line_pos (by omega), _, _, rfl, rfl, ?_, ?_⟩
          · rw [c1, bs_length, bs_length, lx, List.length_take]
            exact line_pos (by omega)
          · show (cutS (bs rest) none (some (0 + (i : Int))) ++ bs (xorB ((rest.drop i).take g.length) g)).length + (cutS (bs rest) (some (0 + (i : Int) + (g.length : Int))) none).length ≤ sizeLine
            rw [c1, c2, ← bs_append, bs_length, bs_length, List.length_append, lx, List.length_take, List.length_drop]
            exact line_pos (by omega)
          · refine ⟨s1.trans s2, by omega, some (.int (0 + (i : Int))), ?_⟩
            show [some (vb g), some (vb b), some (vn g.length), some (V.str (cutS (bs rest) none (some (0 + (i : Int))) ++ bs (xorB ((rest.drop i).take g.length) g) ++ cutS (bs rest) (some (0 + (i : Int) + (g.length : Int))) none)), some (.int (0 + (i : Int)))] = _
            rw [c1, c2, ← bs_append, ← bs_append, nxt]
            unfold remStep
            rw [hx, if_pos rfl, List.append_assoc]
            rfl
    · rintro σ H' ⟨s1, _, v, rfl⟩
      generalize hrest : (List.range (b.length + 1 - g.length)).foldl (remStep g) b = rest
      have lr : rest.length = b.length := by rw [← hrest]; exact fold_length g b h2 _ (Nat.le_refl _)
      have lbr := bs_length rest
      refine ⟨_, rfl, _, rfl, bs rest, rfl, line_pos (by omega), _, rfl, _, _, rfl, rfl, _, _, rfl, rfl, _, rfl, bs rest, rfl, line_pos (by omega), ?_⟩
      have ez : cutS (bs rest) (some (((bs rest).length : Int) - (g.length : Int) + 1)) none = bs (remainder g b) := by
        rw [lbr, lr, show (b.length : Int) - (g.length : Int) + 1 = ((b.length + 1 - g.length : Nat) : Int) by omega, cut_bs_from]
        unfold remainder
        rw [hrest]
      show Q (V.str (cutS (bs rest) (some (((bs rest).length : Int) - (g.length : Int) + 1)) none)) H'
      rw [ez]
      exact k H' s1

/-! check_bits: slots generator, bits -/
theorem scCheck : FnScope ["generator", "bits"] ["generator", "bits"] (defScope sCheck) := ⟨rfl, rfl, rfl, by decide +kernel, rfl, by decide +kernel, by decide +kernel⟩
theorem zero_rep {k : Int} {n : Nat} (h : k = (n : Int)) : (⟨(List.replicate k.toNat 48).toArray⟩ : Str) = bs (zer n) := by
  rw [h, Int.toNat_natCast, zer_bs]
theorem zero_sign : (("0" : Str)) = ⟨#[48]⟩ := by decide +kernel
theorem ok_check {f : Addr} {fd : FuncData} (D : Def K mg "check_bits" sCheck ["generator", "bits"] f fd) (cR : Cal P w K mg base CX0 2 "remainder" spRem) (gL : mg "len" = none) : FnOk P w K mg base CX0 3 f fd ["generator", "bits"] spCheck := by
  refine D.fn.ok scCheck (fun vs H Q E h => ?_) (fun cdv A outer s H vs Q E hr h => ?_)
  · obtain ⟨g, b, rfl, _⟩ := h
    rfl
  · obtain ⟨g, b, rfl, hg, hl, k⟩ := h
    refine ⟨_, pss_one (ps_ret (pe_c cR hr pass0 (pa_cons (pv 0) (pa_cons (pe_op op_add_str (pv 1) (pe_op op_mul_sign pe_str (pe_op op_sub (pe_callB call_len_str (by rfl) gL boot_len (pa_cons (pv 0) pa_nil)) pe_int))) pa_nil)))), ?_⟩
    have lg := bs_length g
    have lo := hg.lo
    have hi := hg.hi
    have ek : ((bs g).length : Int) - 1 = ((g.length - 1 : Nat) : Int) := by omega
    refine ⟨_, rfl, _, rfl, _, rfl, bs g, rfl, line_pos (by omega), _, _, rfl, rfl, 48, _, congrArg V.str zero_sign, rfl, by omega, by omega, bs b, _, rfl, rfl, ?_, g, b ++ zer (g.length - 1), ?_, by omega, ?_, ?_, fun H' s1 => ?_⟩
    · rw [zero_rep ek, bs_length, bs_length, zer_length]
      exact line_pos (by omega)
    · show [V.str (bs g), V.str (bs b ++ (⟨(List.replicate (((bs g).length : Int) - 1).toNat 48).toArray⟩ : Str))] = _
      rw [zero_rep ek, ← bs_append]
      rfl
    · rw [List.length_append, zer_length]; omega
    · rw [List.length_append, zer_length]; omega
    · exact k H' s1

/-! is_intact: slots generator, bits, degree, at -/
theorem scIntact : FnScope ["generator", "bits", "degree", "at"] ["generator", "bits"] (defScope sIntact) := ⟨rfl, rfl, rfl, by decide +kernel, rfl, by decide +kernel, by decide +kernel⟩
theorem dec_bits (a b : Bits) : decide (V.str (bs a) = V.str (bs b)) = (a == b) := by
  by_cases c : a = b
  · subst c
    rw [decide_eq_true rfl, beq_self_eq_true]
  · rw [decide_eq_false (fun z => c (by injection z with z; exact bs_inj z)), beq_eq_false_iff_ne.mpr c]
theorem ok_intact {f : Addr} {fd : FuncData} (D : Def K mg "is_intact" sIntact ["generator", "bits"] f fd) (cC : Cal P w K mg base CX0 3 "check_bits" spCheck) (gL : mg "len" = none) : FnOk P w K mg base CX0 4 f fd ["generator", "bits"] spIntact := by
  refine D.fn.ok scIntact (fun vs H Q E h => ?_) (fun cdv A outer s H vs Q E hr h => ?_)
  · obtain ⟨g, b, rfl, _⟩ := h
    rfl
  · obtain ⟨g, b, rfl, hg, hl, k⟩ := h
    refine ⟨_, pss_cons (ps_set (i := 2) scIntact.nd rfl (Or.inl rfl) (pe_op op_sub (pe_callB call_len_str (by rfl) gL boot_len (pa_cons (pv 0) pa_nil)) pe_int))
      (pss_cons (ps_if (pt_cmpR op_lt (pe_callB call_len_str (by rfl) gL boot_len (pa_cons (pv 1) pa_nil)) (pv 2) (nomark _)) (pss_one (ps_ret pe_bl)) pss_nil)
      (pss_cons (ps_set (i := 3) scIntact.nd rfl (Or.inl rfl) (pe_op op_sub (pe_callB call_len_str (by rfl) gL boot_len (pa_cons (pv 1) pa_nil)) (pv 2)))
      (pss_one (ps_ret (pe_cmpR op_eq (pe_c cC hr pass0 (pa_cons (pv 0) (pa_cons (pe_slice sl_str (pv 1) po_none (po_some (pv 3))) pa_nil))) (pe_slice sl_str (pv 1) (po_some (pv 3)) po_none) (nomark _)))))), ?_⟩
    have lg := bs_length g
    have lb := bs_length b
    have lo := hg.lo
    have hi := hg.hi
    refine ⟨_, rfl, bs g, rfl, line_pos (by omega), _, _, rfl, rfl, _, rfl, bs b, rfl, line_pos (by omega), _, rfl, _, _, rfl, rfl, _, rfl, ?_⟩
    have ec : decide (((bs b).length : Int) < ((bs g).length : Int) - 1) = decide (b.length < g.length - 1) := by
      rw [lg, lb]
      by_cases c : b.length < g.length - 1
      · rw [decide_eq_true c, decide_eq_true (by omega)]
      · rw [decide_eq_false c, decide_eq_false (by omega)]
    show if decide (((bs b).length : Int) < ((bs g).length : Int) - 1) = true then _ else _
    rw [ec]
    by_cases c : b.length < g.length - 1
    · rw [decide_eq_true c]
      have e : isIntact g b = false := by unfold isIntact; rw [if_pos c]
      rw [e] at k
      exact iteT (k H (Same.refl H))
    · rw [decide_eq_false c]
      have e : isIntact g b = (checkBits g (b.take (b.length - (g.length - 1))) == b.drop (b.length - (g.length - 1))) := by unfold isIntact; rw [if_neg c]
      have ea : ((bs b).length : Int) - (((bs g).length : Int) - 1) = ((b.length - (g.length - 1) : Nat) : Int) := by omega
      refine iteF ⟨_, rfl, bs b, rfl, line_pos (by omega), _, rfl, _, _, rfl, rfl, _, rfl, _, rfl, _, rfl, _, rfl, bs b, rfl, line_pos (by omega), g, b.take (b.length - (g.length - 1)), ?_, hg, ?_, fun H' s1 => ?_⟩
      · show [V.str (bs g), V.str (cutS (bs b) none (some (((bs b).length : Int) - (((bs g).length : Int) - 1))))] = _
        rw [ea, cut_bs_to]
        rfl
      · rw [List.length_take]; omega
      · refine ⟨_, rfl, _, rfl, _, rfl, bs b, rfl, line_pos (by omega), rfl, ?_⟩
        show Q (.bl (decide (V.str (bs (checkBits g (b.take (b.length - (g.length - 1))))) = V.str (cutS (bs b) (some (((bs b).length : Int) - (((bs g).length : Int) - 1))) none)))) H'
        rw [ea, cut_bs_from, dec_bits, ← e]
        exact k H' s1

/-! pack: slots generator, numbers, bits -/
theorem scPack : FnScope ["generator", "numbers", "bits"] ["generator", "numbers"] (defScope sPack) := ⟨rfl, rfl, rfl, by decide +kernel, rfl, by decide +kernel, by decide +kernel⟩
theorem ok_pack {f : Addr} {fd : FuncData} (D : Def K mg "pack" sPack ["generator", "numbers"] f fd) (cB : Cal P w K mg base CX0 2 "bits_of" (spBitsOf K)) (cC : Cal P w K mg base CX0 3 "check_bits" spCheck) : FnOk P w K mg base CX0 4 f fd ["generator", "numbers"] (spPack K) := by
  refine D.fn.ok scPack (fun vs H Q E h => ?_) (fun cdv A outer s H vs Q E hr h => ?_)
  · obtain ⟨g, a, ns, rfl, _⟩ := h
    rfl
  · obtain ⟨g, a, ns, rfl, hg, hS, hl, hx, k⟩ := h
    refine ⟨_, pss_cons (ps_set (i := 2) scPack.nd rfl (Or.inl rfl) (pe_c cB hr pass0 (pa_cons (pv 1) pa_nil)))
      (pss_one (ps_ret (pe_op op_add_str (pv 2) (pe_c cC hr pass0 (pa_cons (pv 0) (pa_cons (pv 2) pa_nil)))))), ?_⟩
    have lb := bitsOf_length ns
    have lc := checkBits_length hg (bitsOf ns)
    have hi := hg.hi
    refine ⟨_, rfl, a, ns, rfl, hS, hl, hx, fun H1 s1 => ?_⟩
    refine ⟨_, rfl, _, rfl, _, rfl, g, bitsOf ns, rfl, hg, by omega, fun H2 s2 => ?_⟩
    refine ⟨_, _, rfl, rfl, ?_, ?_⟩
    · rw [bs_length, bs_length]
      exact line_pos (by omega)
    · show Q (V.str (bs (bitsOf ns) ++ bs (checkBits g (bitsOf ns)))) H2
      rw [← bs_append]
      exact k H2 (s1.trans s2)

/-! unpack: slots generator, bits -/
theorem scUnpack : FnScope ["generator", "bits"] ["generator", "bits"] (defScope sUnpack) := ⟨rfl, rfl, rfl, by decide +kernel, rfl, by decide +kernel, by decide +kernel⟩
theorem intact_len {g b : Bits} (h : isIntact g b = true) : g.length - 1 ≤ b.length := by
  unfold isIntact at h
  by_cases c : b.length < g.length - 1
  · rw [if_pos c] at h; cases h
  · omega
theorem ok_unpack {f : Addr} {fd : FuncData} (D : Def K mg "unpack" sUnpack ["generator", "bits"] f fd) (cI : Cal P w K mg base CX0 4 "is_intact" spIntact) (cB : Cal P w K mg base CX0 2 "bytes_of" spBytesOf) (gL : mg "len" = none) :
    FnOk P w K mg base CX0 5 f fd ["generator", "bits"] spUnpack := by
  refine D.fn.ok scUnpack (fun vs H Q E h => ?_) (fun cdv A outer s H vs Q E hr h => ?_)
  · obtain ⟨g, b, rfl, _⟩ := h
    rfl
  · obtain ⟨g, b, rfl, hg, hl, kN, kS⟩ := h
    refine ⟨_, pss_cons (ps_if (pt_not (pt_val (pe_c cI hr pass0 (pa_cons (pv 0) (pa_cons (pv 1) pa_nil))))) (pss_one (ps_ret pe_non)) pss_nil)
      (pss_one (ps_ret (pe_c cB hr pass0 (pa_cons (pe_slice sl_str (pv 1) po_none (po_some (pe_op op_add (pe_op op_sub (pe_callB call_len_str (by rfl) gL boot_len (pa_cons (pv 1) pa_nil)) (pe_callB call_len_str (by rfl) gL boot_len (pa_cons (pv 0) pa_nil))) pe_int))) pa_nil)))), ?_⟩
    have lg := bs_length g
    have lb := bs_length b
    have lo := hg.lo
    have hi := hg.hi
    refine ⟨_, rfl, _, rfl, g, b, rfl, hg, hl, fun H1 s1 => ⟨_, rfl, ?_⟩⟩
    cases hI : isIntact g b with
    | false => exact iteT (kN (unpack_bad hI) H1 s1)
    | true =>
      have hlen := intact_len hI
      have eu : unpack g b = bytesOf (b.take (b.length - (g.length - 1))) := by unfold unpack; rw [if_pos hI]
      have ea : ((bs b).length : Int) - ((bs g).length : Int) + 1 = ((b.length - (g.length - 1) : Nat) : Int) := by omega
      refine iteF ⟨_, rfl, _, rfl, bs b, rfl, line_pos (by omega), _, rfl, bs g, rfl, line_pos (by omega), _, _, rfl, rfl, _, _, rfl, rfl, _, rfl, bs b, rfl, line_pos (by omega), b.take (b.length - (g.length - 1)), ?_, ?_, fun e => ?_, fun ns e p H2 s2 np hp => ?_⟩
      · show [V.str (cutS (bs b) none (some (((bs b).length : Int) - ((bs g).length : Int) + 1)))] = _
        rw [ea, cut_bs_to]
      · rw [List.length_take]; omega
      · exact kN (eu.trans e) H1 s1
      · exact kS ns (eu.trans e) p H2 (s1.trans s2) (s1.free np) hp
end
end Tk
end

section
set_option Elab.async false
set_option linter.all false
set_option maxRecDepth 100000
set_option maxHeartbeats 4000000
/-! Refused(what): an own error over ValueError whose __init__ says super().__init__(what); self.what = what. -/
namespace Tk
open PySem
abbrev sRI : Stmt := L2.inClass (top_ 15) 0
end Tk
namespace PySem
namespace RefX
open PySem.W PySem.Calls PyProof.Rows PySem.HandSPX Tk
/-- what the written part says of Refused, at C, and of its __init__, at fI -/
structure RefTxt (prog : Program) (K : Frag) (mg : Str → Option Value) (C fI : Addr) : Prop where
  gC : mg "Refused" = some (.ref C)
  sup : mg "super" = none
  cls : ∃ nm q N bs bm sn sub ab col dd k0 k1 k2 k3 k5, K.lookup C = some (excClassObj nm q C N bs bm true sn sub ab col dd k0 k1 k2 k3 k5 "ValueError.__new__") ∧ refsVE bm = true
  sa : findIn K (.ref C) "__setattr__" = some (some (.builtin "object.__setattr__"))
  ga : findIn K (.ref C) "__getattribute__" = some (some (.builtin "BaseException.__getattribute__"))
  gg : findIn K (.ref C) "__getattr__" = some none
  noN : findIn K (.ref C) "what" = some none
  iC : findIn K (.ref C) "__init__" = some (some (.ref fI))
  tC : typeIn K (.ref fI) = some (.type "function")
  kC : keepIn K (.ref C) = true
  exC : subIn K (.ref C) (.type "BaseException") = some true
  veC : subIn K (.ref C) (.type "ValueError") = some true
  tyC : typeIn K (.ref C) = some (.type "type")
  hdC : hasDictIn K C = true
  te : exmOne K (.ref C) (.ref C) = some true
  me : mroIn K C (.ref C) = some true
  op : nsIn K cStatics "thirdparty.any" = some none
  si : ks_superIn K C C "__init__" = some (some (.builtin "ValueError.__init__"))
  file : ((prog.main.file : Str) == ("/claim/cut.py" : Str)) = true
  top : (prog.main.scope.names.lookup ("super" : Str)).isSome = false
  fn : ∃ (oc : Value) (od : Option Addr) (kV doc pm : Value) (an : Option Addr) (cda cc : Addr) (ct : Value) (osl : Array (Option Value)),
    K.lookup fI = some ⟨oc, od, .func (ksFn "__init__" "Refused.__init__" (L2.defArgs sRI) (L2.defBody sRI) (L2.defScope sRI) .none kV doc pm an (.ref cda) ct cc), osl⟩ ∧ codeIn K (.ref cda) "Refused.__init__" = true ∧
      (∃ ccl cdd vs ccs tf, K.lookup cda = some ⟨ccl, cdd, .fields vs, ccs⟩ ∧ vs[2]? = some (.str "/claim/cut.py" tf)) ∧
      (∃ cl cld csl, K.lookup cc = some ⟨cl, cld, .cell (some (.ref C)), csl⟩)
theorem one_size (v : Value) : [v].length ≤ sizeLine := by
  rw [sizeLine_eq]
  exact (by decide : 1 ≤ 16777216)

section
variable {prog : Program} {w : World} {A : Around} {E : Value → Shared → Prop} {h : Heap} {g : Array GenState} {d : Drawn} {t : Nat} {os : OsState}
variable {nm q : Str} {C N : Addr} {bs bm : List Value} {hdct : Bool} {sn : List Str} {sub : List Value} {ab : Bool} {col : Option Bool} {dd : Option Addr} {k0 k1 k2 k3 k5 : Option Value}
/-- ValueError.__init__ bound to an exception, called -/
theorem call_mw {u e t0 : Addr} {rest : List Value} {Q : Value → Shared → Prop}
    (hC : h.get? C = some (excClassObj nm q C N bs bm hdct sn sub ab col dd k0 k1 k2 k3 k5 "ValueError.__new__")) (he : h.get? e = some (excO C t0)) (hu : h.get? u = some (kxs_mw "ValueError.__init__" e)) (hrest : rest.length ≤ sizeLine)
    (hq : ∀ h' t1, (∀ b o, b ≠ e → h.get? b = some o → h'.get? b = some o) → h'.get? e = some (excO C t1) → Q .none ⟨h', g, d, t, os⟩) :
    wpAny (model prog w) A (call (.ref u) rest) Q E ⟨h, g, d, t, os⟩ := by
  refine wpAny_call (codeAny_of_tree ?_)
  show wpAny _ A.in1 (callAny (.ref u) ⟨rest, []⟩) _ _ _
  simp only [callAny]
  refine wpAny_bind (wpAny_load hu ?_)
  simp only [kxs_mw, show (Value.type "method-wrapper" == Value.type "method" || Value.type "method-wrapper" == Value.type "builtin_function_or_method" || Value.type "method-wrapper" == Value.type "method-wrapper") = true by decide, if_true]
  refine W.KFB.if_so (by decide) ?_
  refine wpAny_bind (ESX.check_bound F.excBase_ValueError hC he rfl ?_)
  refine wpAny_bind (wpAny_pure (wpAny_pure ?_))
  refine ⟨Code.quiet_builtin _ (by decide +kernel), codeAny_builtin F.excBase_ValueError.initEntry ?_⟩
  rw [Around.under_plainId F.excBase_ValueError.init.plain _]
  wp_walk
  refine hq _ h.objs.size (fun b o hb ho => ?_) ?_
  · rw [Heap.get?_update_other _ _ (Ne.symm hb)]
    exact Heap.get?_push_of_some _ ho
  · rw [Heap.get?_update_self _ (Heap.get?_push_of_some _ he) rfl]
    rfl
end

/-- what __init__ leaves of a fresh exception at x -/
structure InitEnd (h h' : Heap) (x C dx t1 : Addr) (v : Value) : Prop where
  keep : ∀ b o, b ≠ x → h.get? b = some o → h'.get? b = some o
  obj : h'.get? x = some { cls := .ref C, dict := some dx, data := .fields #[.ref t1, .none, .none, .none, .bool false, .none] }
  dbig : h.objs.size ≤ dx
  dne : dx ≠ x
  ns : h'.Ns1 dx (fun y => if y = "what" then some v else none)
/-- a made Refused -/
structure OwnMade (h h' : Heap) (e C d : Addr) (v : Value) : Prop where
  keep : ∀ b o, h.get? b = some o → h'.get? b = some o
  new : h.objs.size ≤ e
  obj : ∃ oe vs, h'.get? e = some oe ∧ oe.cls = .ref C ∧ oe.dict = some d ∧ oe.data = .fields vs ∧ vs[1]? = some .none
  dbig : h.objs.size ≤ d
  dne : d ≠ e
  ns : h'.Ns1 d (fun y => if y = "what" then some v else none)
section
variable {prog : Program} {w : World} {A : Around} {E : Value → Shared → Prop} {R : Result → Shared → Prop} {s : Shared} {K : Frag} {mg mb : Str → Option Value} {C fI : Addr}
theorem ref_init (T : RefTxt prog K mg C fI) {x t0 : Addr} {v : Value} (X : K.In s.heap) (hlim : s.heap.NoLimit) (hG : s.heap.Ns mainGlobals mg) (hB : s.heap.Ns builtinsNs mb) (hb : ∀ y : Str, y ≠ "__name__" → mb y = bootBuiltins y)
    (hx : s.heap.get? x = some (excO C t0)) (hnx : K.lookup x = none) (hroom : A.depth < recursionLimit)
    (hq : ∀ h' tk dx t1, InitEnd s.heap h' x C dx t1 v → R (.ok (.ret .none)) { s with heap := h', toks := tk }) :
    codeAny (model prog w) A (.call (.ref fI) ⟨[.ref x, v], []⟩) R s := by
  obtain ⟨oc, od, kV, doc, pm, an, cda, cc, ct, osl, ho, hcd, ⟨ccl, cdd, cvs, ccs, tf, hcode, hvs⟩, ⟨cl, cld, csl, hcell⟩⟩ := T.fn
  obtain ⟨nm, q, N, bs, bm, sn, sub, ab, col, dd, k0, k1, k2, k3, k5, hC, hbm⟩ := T.cls
  have hcl : clsIn K C = some { name := nm, bases := bs, mro := .ref C :: bm, ns := N, qualname := q, hasDict := true, slotNames := sn, subclasses := sub, abstract := ab, collection := col, hasDel := false } := by unfold clsIn; rw [hC] <;> rfl
  have hxC : x ≠ C := fun z => by rw [z, hC] at hnx; cases hnx
  refine ks_codeAny_call_defAt (fd := ksFn "__init__" "Refused.__init__" (L2.defArgs sRI) (L2.defBody sRI) (L2.defScope sRI) .none kV doc pm an (.ref cda) ct cc) (body := L2.defBody sRI) (binds := [("self", .ref x), ("what", v)])
    hroom (X _ _ ho) rfl hlim (codeRec_of X hcd) rfl (BindsTo.of_eq (by first | rfl | with_unfolding_all rfl)) (by show ∀ x ∈ (L2.defScope sRI).names, x.2 ≠ .cell; decide +kernel) (by first | rfl | decide +kernel | exact locs rfl) (fun h₁ hns hk => ?_)
  have X1 : K.In h₁ := X.keeps hk
  have hx1 := hk _ _ hx
  show wpAt _ _ _ (execs (L2.defBody sRI) (ksEnv "Refused.__init__" (L2.defScope sRI) s.heap.objs.size fI (.ref cda) cc)) _ _ _
  refine ks_wpAt_execs_cons (ks_wpAt_Expr_any (ks_wpAt_MethodCall ?_))
  refine ks_wpAt_super_base (env := ksEnv "Refused.__init__" (L2.defScope sRI) s.heap.objs.size fI (.ref cda) cc) (by rfl) (by rfl) (by decide) rfl (X1 _ _ ho) rfl (by rfl) rfl (X1 _ _ hcode) rfl hvs T.file T.top ?_
  refine ks_loadName_global rfl (by rfl) (loadGlobal_builtin (env := ksEnv "Refused.__init__" (L2.defScope sRI) s.heap.objs.size fI (.ref cda) cc) (hG.keeps hk) T.sup (hB.keeps hk) ((hb _ (by decide +kernel)).trans (by first | rfl | kernel_rfl)) ⟨rfl, ?_⟩)
  refine wpAny_loadName_free rfl (by rfl) (by rfl) ⟨_, X1 _ _ hcell, rfl⟩ ?_
  refine wpAny_loadName_local rfl (by rfl) hns (by first | rfl | kernel_rfl | with_unfolding_all rfl) ?_
  refine ks_wpAny_isType_cls (X1 _ _ hC) rfl ⟨rfl, ?_⟩
  refine ks_wpAny_call_super (X1 _ _ hC) rfl hx1 rfl (fun c z => by cases z) (looks_mroIn X1 T.me) (fun h₂ hso k2 => ?_)
  have X2 : K.In h₂ := X1.keeps k2
  have hx2 := k2 _ _ hx1
  have I2 : PySem.W.InstAt h₂ x (excO C t0) C none := ⟨hx2, rfl, rfl, trivial⟩
  have si := T.si
  unfold ks_superIn at si
  rw [hcl] at si
  refine kxs_getMethod kxs_ValueError hso (looks_opaque X2 T.op) (l₀ := .ref C :: bm) ?_ rfl X2 si (I2.type.andThen (looks_subIn X2 T.veC)) hxC (by decide +kernel) ?_
  · exact fun A Q E s k q => wpAny_bind ((looks_clsIn X2 hcl) A _ E s k (wpAny_pure q))
  have k3' : ∀ b o, h₂.get? b = some o → (h₂.push (kxs_mw "ValueError.__init__" x)).get? b = some o := fun b o e => Heap.get?_push_of_some _ e
  have hmw : (h₂.push (kxs_mw "ValueError.__init__" x)).get? h₂.objs.size = some (kxs_mw "ValueError.__init__" x) := Heap.get?_push_size _ rfl
  have X3 : K.In (h₂.push (kxs_mw "ValueError.__init__" x)) := X2.keeps k3'
  have hns3 := (hns.keeps k2).keeps k3'
  refine kxs_callWith (i := "ValueError.__init__") (x := x) rfl ?_
  show wpAny _ _ (evalArgs _ true (backTo _ (starEach [_] _)) []) _ _ _
  refine evalArgs_plain (spliced_cons ?_)
  refine wpAny_Name (wpAny_loadName_local rfl (by rfl) hns3 (v := v) (by first | rfl | kernel_rfl | with_unfolding_all rfl) ?_) (by decide)
  refine spliced_nil ⟨hmw, ?_⟩
  refine call_mw (X3 _ _ hC) (k3' _ _ hx2) hmw (one_size v) fun h₄ t1 k4 hx4 => ?_
  have X4 : K.In h₄ := fun a o e => k4 a o (fun z => by rw [z, hnx] at e; cases e) (X3 a o e)
  have hxL : s.heap.objs.size ≠ x := Nat.ne_of_gt (Heap.lt_size hx)
  obtain ⟨oL, es, ep, hL, r⟩ := hns3
  have hns4 : h₄.Ns s.heap.objs.size _ := ⟨oL, es, ep, k4 _ _ hxL hL, r⟩
  have kall : ∀ b o, b ≠ x → s.heap.get? b = some o → h₄.get? b = some o := fun b o hb e => k4 b o hb (k3' _ _ (k2 _ _ (hk _ _ e)))
  -- self.what = what
  show wpAt _ _ _ (execs [_] _) _ _ _
  refine wpAt_of_wpAny (wpAny_execs_cons (plainObj_wpAny_Assign_Attribute ?_))
  refine wpAny_Name (wpAny_loadName_local rfl (by rfl) hns4 (v := v) (by first | rfl | kernel_rfl | with_unfolding_all rfl) ?_) (by decide)
  refine wpAny_Name (wpAny_loadName_local rfl (by rfl) hns4 (v := .ref x) (by first | rfl | kernel_rfl | with_unfolding_all rfl) ?_) (by decide)
  refine set_plain X4 (ox := excO C t1) (od := none) ⟨hx4, rfl, rfl, trivial⟩ T.sa ?_
  refine exc_osa X4 hx4 hcl (show refsVE (.ref C :: bm) = true from hbm) rfl T.noN (fun h₅ tk₅ dx k₅ dn dne hx₅ hn₅ => ?_)
  have z4 : s.heap.objs.size < h₄.objs.size := Heap.lt_size (k4 _ _ hxL hL)
  exact wpAny_execs_nil (hq h₅ tk₅ dx t1 ⟨fun b o hb e => k₅ b o hb (kall b o hb e), hx₅, Nat.le_of_lt (Nat.lt_of_lt_of_le z4 dn), dne, hn₅⟩)
theorem ref_made (T : RefTxt prog K mg C fI) {v : Value} (X : K.In s.heap) (hlim : s.heap.NoLimit) (hG : s.heap.Ns mainGlobals mg) (hB : s.heap.Ns builtinsNs mb) (hb : ∀ y : Str, y ≠ "__name__" → mb y = bootBuiltins y) (hroom : A.depth + 1 < recursionLimit)
    (hq : ∀ h' tk e d, OwnMade s.heap h' e C d v → R (.ok (.ret (.ref e))) { s with heap := h', toks := tk }) :
    codeAny (model prog w) A (.call (.ref C) ⟨[v], []⟩) R s := by
  obtain ⟨nm, q, N, bs, bm, sn, sub, ab, col, dd, k0, k1, k2, k3, k5, hC, hbm⟩ := T.cls
  obtain ⟨hp, g, dr, tk, os⟩ := s
  have k : ∀ b o, hp.get? b = some o → ((hp.push (kdv_tup [v])).push (excO C hp.objs.size)).get? b = some o := fun b o e => Heap.get?_push_of_some _ (Heap.get?_push_of_some _ e)
  have hget : ((hp.push (kdv_tup [v])).push (excO C hp.objs.size)).get? (hp.objs.size + 1) = some (excO C hp.objs.size) := by heap_get
  have hnx : K.lookup (hp.objs.size + 1) = none := by
    cases e : K.lookup (hp.objs.size + 1) with
    | none => rfl
    | some o =>
      have z : hp.get? (hp.objs.size + 1) = some o := X _ _ e
      exact absurd (Nat.lt_of_succ_lt (Heap.lt_size z)) (Nat.lt_irrefl _)
  refine call_own F.excBase_ValueError (fun X => refsVE_contains X bm hbm) (X _ _ hC) (looks_findIn X T.iC) (fun self => bind_fn X self T.tC) (one_size v) ?_
  refine ref_init (s := ⟨(hp.push (kdv_tup [v])).push (excO C hp.objs.size), g, dr, tk, os⟩) T (X.keeps k) (hlim.keeps k) (hG.keeps k) (hB.keeps k) hb hget hnx ?_ fun h' tk' dx t1 ⟨k', hx, dn, dne, hns⟩ => ?_
  · show A.depth + 1 < recursionLimit
    exact hroom
  · have old : ∀ b o, hp.get? b = some o → h'.get? b = some o := fun b o e => k' b o (Nat.ne_of_lt (Nat.lt_succ_of_lt (Heap.lt_size e))) (k b o e)
    have z : hp.objs.size + 1 + 1 ≤ dx := by
      first
        | (simpa only [Heap.size_push] using dn)
        | exact dn
        | (have q := dn; rw [Heap.size_push, Heap.size_push] at q; exact q)
    exact ⟨rfl, hq h' tk' (hp.objs.size + 1) dx ⟨old, Nat.le_succ _, ⟨_, _, hx, rfl, rfl, rfl, rfl⟩, Nat.le_trans (Nat.le_trans (Nat.le_succ _) (Nat.le_succ _)) z, dne, hns⟩⟩
end
end RefX
end PySem

namespace Tk
open PySem PySem.Spec PyProof.Rows L2
theorem relO_ref {v : V} {v' : Value} (r : RelV v v') (f : Str) : RelO (List.lookup f [(("what" : Str), v)]) (if f = "what" then some v' else none) := by
  by_cases hw : f = "what"
  · subst hw
    rw [if_pos rfl]
    have q : List.lookup ("what" : Str) [(("what" : Str), v)] = some v := by simp [List.lookup]
    rw [q]
    exact r
  · rw [if_neg hw]
    have qw : (f == ("what" : Str)) = false := by simpa using hw
    have q2 : List.lookup f [(("what" : Str), v)] = none := by simp [List.lookup, qw]
    rw [q2]
    trivial
section
variable {X : Cx} {C fI : Addr}
/-- Refused(e) -/
def tMkRef (C : Addr) (ta : TA) : L2.St → Hp → XK → Prop := fun σ H Q => ta σ H fun vs H1 => ∃ v, vs = [v] ∧ ∀ d, H1 d = none → Q (.ref C) (some d) (upd H1 d (.xd [(("what" : Str), v)]))
theorem pmk_ref {a : Expr} {ta : TA} {p pos : Pos} {k : Nat} (T : PySem.RefX.RefTxt X.prog X.K X.mg C fI) (hr : Room k X.A) (ha : PA X [a] ta) (hg : Gl X "Refused" := by rfl)
    (he : starEach (a :: []) X.env = (false, eval a X.env) :: starEach [] X.env := by rfl) (hpl : (backTo pos (starEach [] X.env)).any (·.1) = false := by rfl) :
    PMk X (.Call (.Name "Refused" p) [a] [] pos) (tMkRef C ta) := by
  intro pins s σ H Q I h
  refine wpAny_Call_Name_kw (ld_glob I hg T.gC ?_)
  refine PySem.W.callWith_K (h₀ := X.base) I.ok.mod.kin T.kC (thn (ha.run pos pins s σ H _ I h) fun us s1 hh => ?_) he hpl
  obtain ⟨vs, H1, I1, r1, v, ev, q1⟩ := hh
  subst ev
  refine ⟨I1.kIn, ?_⟩
  cases r1 with
  | cons rv rn =>
    rename_i v' us'
    cases rn
    show wpAny _ _ (call (.ref C) [v']) _ _ _
    have hlim := I1.nolimit
    have hG := I1.mod.glob.keeps I1.bk
    obtain ⟨mb, hB, hb⟩ := I1.mod.blt
    have hB := hB.keeps I1.bk
    obtain ⟨hp, g, dr, tk, os⟩ := s1
    refine wpAny_call (PySem.RefX.ref_made T I1.kIn hlim hG hB hb (by have := hr.dp; omega) fun h' tk' e d M => ?_)
    show MkP X pins σ Q (.ref e) ⟨h', g, dr, tk', os⟩
    obtain ⟨oe, fv, hoe, hc, hd, hdat, h1⟩ := M.obj
    have hns := M.ns
    obtain ⟨G', g1, g2⟩ := restrict h' fun b => decide (b ≠ e)
    have gk : ∀ b, b ≠ e → G'.get? b = h'.get? b := fun b hb => g1 b (decide_eq_true hb)
    have ge : G'.get? e = none := g2 e (by simp)
    have old : ∀ b o, hp.get? b = some o → G'.get? b = some o := fun b o q => (gk b (Nat.ne_of_lt (Nat.lt_of_lt_of_le (Heap.lt_size q) M.new))).trans (M.keep b o q)
    have ob : ObjOk X.prog X.w (upd H1 d (.xd [(("what" : Str), v)])) G' d (.xd [(("what" : Str), v)]) :=
      ⟨_, hns.at (fun o q => (gk d M.dne).trans q), fun f => relO_ref rv f⟩
    have J : L2.Inv X pins σ (upd H1 d (.xd [(("what" : Str), v)])) ⟨G', g, dr, tk', os⟩ := I1.laid (t' := tk') old M.dbig ob
    refine ⟨e, oe, fv, ⟨G', g, dr, tk', os⟩, _, .ref C, some d, rfl, J, fun b o q => ?_, ge, hoe, ⟨hc, hd⟩, hdat, h1, ?_, rfl, I1.bare, raises_own T.exC T.tyC, q1 d (I1.hok.fresh M.dbig)⟩
    · by_cases hb : b = e
      · have q' : G'.get? b = some o := q
        rw [hb, ge] at q'; cases q'
      · exact (gk b hb).symm.trans q
    · rw [upd_ne (Ne.symm M.dne)]
      exact I1.hok.fresh M.new
/-- raise Refused(e) -/
def tRaiseRef (C : Addr) (W : WX) (ta : TA) : TS := fun _ σ H => tMkRef C ta σ H fun cls d H' => W cls d σ H'
theorem ps_raiseRef {a : Expr} {ta : TA} {W : WX} {p pos pos2 : Pos} {k : Nat} (hc : X.calm = true) (T : PySem.RefX.RefTxt X.prog X.K X.mg C fI) (hr : Room k X.A) (tk : Takes X W) (ha : PA X [a] ta) (hg : Gl X "Refused" := by rfl)
    (he : starEach (a :: []) X.env = (false, eval a X.env) :: starEach [] X.env := by rfl) (hpl : (backTo pos (starEach [] X.env)).any (·.1) = false := by rfl) :
    PS X (.Raise (some (.Call (.Name "Refused" p) [a] [] pos)) none pos2) (tRaiseRef C W ta) := ps_raise hc tk (pmk_ref T hr ha hg he hpl)
/-- e.what, e the exception that the suite holds (at a; its class cls, its dict d) -/
def tByRef (C : Addr) (a : Addr) (cls : Value) (d : Option Addr) (te : TE) : TE := fun σ H Q => te σ H fun x H1 => x = .ref a ∧ cls = .ref C ∧ ∃ (dd : Addr) (v : V), d = some dd ∧ H1 dd = some (.xd [(("what" : Str), v)]) ∧ Q v H1
theorem pe_byRef {a : Addr} {oe : Obj} {cls : Value} {d : Option Addr} {pn : List (Addr × Obj)} {e : Expr} {te : TE} {pos : Pos} (T : PySem.RefX.RefTxt X.prog X.K X.mg C fI) (hz : Zc cls d oe) (hf : ∃ vs, oe.data = .fields vs) (he : PE (X.suite a ((a, oe) :: pn)) e te)
    (hb : attributeBase e "what" X.env (eval e X.env) = eval e X.env := by rfl) :
    PE (X.suite a ((a, oe) :: pn)) (.Attribute e "what" pos) (tByRef C a cls d te) := by
  refine ⟨fun pins s σ H Q I h => ?_⟩
  refine attr_of hb (thn (he.run pins s σ H _ I h) fun u s1 hh => ?_)
  obtain ⟨x, H1, I1, rx, ex, ec, dd, v, ed, ea, q⟩ := hh
  subst ex
  obtain rfl : u = Value.ref a := rx
  subst ec
  subst ed
  obtain ⟨ha, _⟩ := I1.pin (a, oe) (List.mem_append_left _ List.mem_cons_self)
  obtain ⟨vs, hd⟩ := hf
  have hx : ObjOk X.prog X.w H1 s1.heap dd (.xd [(("what" : Str), v)]) := I1.hok dd _ ea
  obtain ⟨mA, hns, hr⟩ := hx
  obtain ⟨od, ho, hl⟩ := lookIn_ns hns
  have l : List.lookup ("what" : Str) [(("what" : Str), v)] = some v := by simp [List.lookup]
  obtain ⟨u, hu, ru⟩ := RelO.some_of (v := v) (o := mA "what") (by rw [← l]; exact hr "what")
  have J : PySem.W.InstAt s1.heap a oe C (some od) := ⟨ha, hz.1, by unfold PySem.W.notCls; rw [hd] <;> rfl, by rw [hz.2]; exact ho⟩
  exact HandSPX.exc_get I1.kIn J T.ga T.gg T.exC (PySem.W.findObj_own T.hdC T.noN rfl (by rw [hl, hu])) (handed_of ru) ⟨v, H1, I1.tok _, ru, q⟩
end
end Tk
end

section
set_option Elab.async false
set_option maxRecDepth 100000
set_option maxHeartbeats 4000000
/-! How the talk stands in the heap. -/
namespace Tk
open PySem PySem.Spec PyProof.Rows L2

/-! ### what a step leaves -/
structure Kp (S : List Addr) (H H' : Hp) : Prop where
  keep : ∀ b o, H b = some o → b ∉ S → H' b = some o
  tups : ∀ b xs, H b = some (.tup xs) → H' b = some (.tup xs)
section
variable {S S' : List Addr} {H H1 H2 : Hp} {a : Addr} {o : HO}
theorem Kp.refl (S : List Addr) (H : Hp) : Kp S H H := ⟨fun _ _ h _ => h, fun _ _ h => h⟩
theorem Kp.trans (x : Kp S H H1) (y : Kp S H1 H2) : Kp S H H2 := ⟨fun b o h hb => y.keep b o (x.keep b o h hb) hb, fun b xs h => y.tups b xs (x.tups b xs h)⟩
theorem Kp.same (h : Same H H1) : Kp S H H1 := ⟨fun b o e _ => h b o e, fun b _ e => h b _ e⟩
theorem Kp.sub (x : Kp S H H1) (h : ∀ b ∈ S, b ∈ S') : Kp S' H H1 := ⟨fun b o e hb => x.keep b o e fun z => hb (h b z), x.tups⟩
theorem Kp.new (x : Kp S H H1) (h : H1 a = none) : Kp S H (upd H1 a o) :=
  ⟨fun b u e hb => by rw [upd_ne (ne_of_none (x.keep b u e hb) h)]; exact x.keep b u e hb, fun b xs e => by rw [upd_ne (ne_of_none (x.tups b xs e) h)]; exact x.tups b xs e⟩
theorem Kp.put (x : Kp S H H1) (ha : a ∈ S) (h : ∀ xs, H1 a ≠ some (.tup xs)) : Kp S H (upd H1 a o) :=
  ⟨fun b u e hb => by rw [upd_ne (fun z => hb (by rw [z]; exact ha))]; exact x.keep b u e hb, fun b xs e => by
    have q := x.tups b xs e
    rw [upd_ne (fun z => h xs (by rw [← z]; exact q))]
    exact q⟩
theorem Same.new (x : Same H H1) (h : H1 a = none) : Same H (upd H1 a o) := fun b u e => by rw [upd_ne (ne_of_none (x b u e) h)]; exact x b u e
theorem Same.newer (h : H a = none) (x : Same (upd H a o) H1) : Same H H1 := fun b u e => x b u (by rw [upd_ne (ne_of_none e h)]; exact e)
theorem not_tup_lst {xs : List V} (h : H a = some (.lst xs)) : ∀ ys, H a ≠ some (.tup ys) := fun ys z => by rw [h] at z; cases z
theorem not_tup_ins {C dx : Addr} {fs : List (Str × V)} (h : H a = some (.ins C dx fs)) : ∀ ys, H a ≠ some (.tup ys) := fun ys z => by rw [h] at z; cases z
theorem not_tup_dk {kvs : List (Key × V)} (h : H a = some (.dK kvs)) : ∀ ys, H a ≠ some (.tup ys) := fun ys z => by rw [h] at z; cases z
theorem lst_ne_ins {b C dx : Addr} {xs : List V} {fs : List (Str × V)} (h : H a = some (.lst xs)) (h' : H b = some (.ins C dx fs)) : a ≠ b := ne_of h h' (by intro z; cases z)
theorem lst_ne_dk {b : Addr} {xs : List V} {kvs : List (Key × V)} (h : H a = some (.lst xs)) (h' : H b = some (.dK kvs)) : a ≠ b := ne_of h h' (by intro z; cases z)
theorem ins_ne_dk {b C dx : Addr} {fs : List (Str × V)} {kvs : List (Key × V)} (h : H a = some (.ins C dx fs)) (h' : H b = some (.dK kvs)) : a ≠ b := ne_of h h' (by intro z; cases z)
theorem tup_ne_lst {b : Addr} {xs ys : List V} (h : H a = some (.tup xs)) (h' : H b = some (.lst ys)) : a ≠ b := ne_of h h' (by intro z; cases z)
end

/-! ### attributes -/
theorem lk_nd : ∀ {fs : List (Str × V)} {m : Str} {v : V}, (fs.map (·.1)).Nodup → (m, v) ∈ fs → fs.lookup m = some v
  | [], _, _, _, h => by cases h
  | (k, x) :: r, m, v, nd, h => by
    obtain ⟨n1, n2⟩ := List.nodup_cons.mp (show (k :: r.map (·.1)).Nodup from nd)
    rcases List.mem_cons.mp h with e | h
    · cases e
      simp [List.lookup]
    · have hk : ¬ m = k := fun e => n1 (by rw [← e]; exact List.mem_map.mpr ⟨(m, v), h, rfl⟩)
      have hb : (m == k) = false := beq_eq_false_iff_ne.mpr hk
      simp only [List.lookup, hb]
      exact lk_nd n2 h
theorem lk_no : ∀ {fs : List (Str × V)} {m : Str}, ¬ m ∈ fs.map (·.1) → fs.lookup m = none
  | [], _, _ => rfl
  | (k, x) :: r, m, h => by
    have h' : ¬ m ∈ k :: r.map (·.1) := h
    have hk : ¬ m = k := fun e => h' (by rw [e]; exact List.mem_cons_self ..)
    have hb : (m == k) = false := beq_eq_false_iff_ne.mpr hk
    simp only [List.lookup, hb]
    exact lk_no fun z => h' (List.mem_cons_of_mem _ z)
theorem putF_new : ∀ {fs : List (Str × V)} {m : Str} (v : V), ¬ m ∈ fs.map (·.1) → putF m v fs = fs ++ [(m, v)]
  | [], _, _, _ => rfl
  | (k, x) :: r, m, v, h => by
    have h' : ¬ m ∈ k :: r.map (·.1) := h
    have hk : ¬ k = m := fun e => h' (by rw [e]; exact List.mem_cons_self ..)
    show (if k = m then (k, v) :: r else (k, x) :: putF m v r) = (k, x) :: (r ++ [(m, v)])
    rw [if_neg hk, putF_new v fun z => h' (List.mem_cons_of_mem _ z)]
theorem putF_at : ∀ {fs : List (Str × V)} {m : Str} {r : List (Str × V)} {x : V} (v : V), ¬ m ∈ fs.map (·.1) → putF m v (fs ++ (m, x) :: r) = fs ++ (m, v) :: r
  | [], m, r, x, v, _ => by
    show (if m = m then (m, v) :: r else (m, x) :: putF m v r) = (m, v) :: r
    rw [if_pos rfl]
  | (k, y) :: fs, m, r, x, v, h => by
    have h' : ¬ m ∈ k :: fs.map (·.1) := h
    have hk : ¬ k = m := fun e => h' (by rw [e]; exact List.mem_cons_self ..)
    show (if k = m then (k, v) :: (fs ++ (m, x) :: r) else (k, y) :: putF m v (fs ++ (m, x) :: r)) = (k, y) :: (fs ++ (m, v) :: r)
    rw [if_neg hk, putF_at v fun z => h' (List.mem_cons_of_mem _ z)]

/-- a sender's attributes, a taker's, a talk's -/
def sf (w : Nat) (g : Bits) (sl : Addr) (k : Nat) : List (Str × V) := [("window", vn w), ("generator", vb g), ("letters", .ref sl), ("done", vn k)]
def kf (w : Nat) (g : Bits) (tl : Addr) : List (Str × V) := [("window", vn w), ("generator", vb g), ("letters", .ref tl)]
def tf (w : Nat) (g : Bits) (sn tn dl : Addr) : List (Str × V) := [("window", vn w), ("generator", vb g), ("sender", .ref sn), ("taker", .ref tn), ("lines", .ref dl)]
abbrev kS : List Str := ["window", "generator", "letters", "done"]
abbrev kK : List Str := ["window", "generator", "letters"]
abbrev kT : List Str := ["window", "generator", "sender", "taker", "lines"]
theorem ndS : kS.Nodup := by decide +kernel
theorem ndK : kK.Nodup := by decide +kernel
theorem ndT : kT.Nodup := by decide +kernel
section
variable {w : Nat} {g : Bits} {sl tl sn tn dl : Addr} {k : Nat} {m : Str}
theorem sf_w : (sf w g sl k).lookup ("window" : Str) = some (vn w) := lk_nd ndS (by simp [sf])
theorem sf_g : (sf w g sl k).lookup ("generator" : Str) = some (vb g) := lk_nd ndS (by simp [sf])
theorem sf_l : (sf w g sl k).lookup ("letters" : Str) = some (.ref sl) := lk_nd ndS (by simp [sf])
theorem sf_d : (sf w g sl k).lookup ("done" : Str) = some (vn k) := lk_nd ndS (by simp [sf])
theorem sf_no (h : ¬ m ∈ kS) : (sf w g sl k).lookup m = none := lk_no h
theorem sf_put (j : Nat) : putF "done" (vn j) (sf w g sl k) = sf w g sl j := putF_at (fs := [("window", vn w), ("generator", vb g), ("letters", .ref sl)]) (vn j) (by show ¬ _ ∈ kK; decide +kernel)
theorem kf_w : (kf w g tl).lookup ("window" : Str) = some (vn w) := lk_nd ndK (by simp [kf])
theorem kf_g : (kf w g tl).lookup ("generator" : Str) = some (vb g) := lk_nd ndK (by simp [kf])
theorem kf_l : (kf w g tl).lookup ("letters" : Str) = some (.ref tl) := lk_nd ndK (by simp [kf])
theorem kf_no (h : ¬ m ∈ kK) : (kf w g tl).lookup m = none := lk_no h
theorem tf_s : (tf w g sn tn dl).lookup ("sender" : Str) = some (.ref sn) := lk_nd ndT (by simp [tf])
theorem tf_k : (tf w g sn tn dl).lookup ("taker" : Str) = some (.ref tn) := lk_nd ndT (by simp [tf])
theorem tf_l : (tf w g sn tn dl).lookup ("lines" : Str) = some (.ref dl) := lk_nd ndT (by simp [tf])
theorem tf_no (h : ¬ m ∈ kT) : (tf w g sn tn dl).lookup m = none := lk_no h
end

/-! ### letters as tuples -/
def Tups (H : Hp) (as : List Addr) (ls : List (List Nat)) : Prop := as.length = ls.length ∧ ∀ (i : Nat) (x : List Nat), ls[i]? = some x → ∃ a, as[i]? = some a ∧ H a = some (.tup (x.map vn))
theorem Tups.mono {H H' : Hp} {as : List Addr} {ls : List (List Nat)} (h : Tups H as ls) (k : ∀ b xs, H b = some (.tup xs) → H' b = some (.tup xs)) : Tups H' as ls :=
  ⟨h.1, fun i x hx => let ⟨a, e, q⟩ := h.2 i x hx; ⟨a, e, k _ _ q⟩⟩
theorem Tups.nil (H : Hp) : Tups H [] [] := ⟨rfl, fun i x h => by simp at h⟩
theorem Tups.snoc {H : Hp} {as : List Addr} {ls : List (List Nat)} {a : Addr} {x : List Nat} (h : Tups H as ls) (ha : H a = some (.tup (x.map vn))) : Tups H (as ++ [a]) (ls ++ [x]) := by
  refine ⟨by rw [List.length_append, List.length_append, h.1]; rfl, fun i y hy => ?_⟩
  by_cases c : i < ls.length
  · rw [List.getElem?_append_left c] at hy
    obtain ⟨b, e, q⟩ := h.2 i y hy
    exact ⟨b, by rw [List.getElem?_append_left (by rw [h.1]; exact c)]; exact e, q⟩
  · have hi : i = ls.length := by
      have := (List.getElem?_eq_some_iff.mp hy).1
      rw [List.length_append] at this
      simp only [List.length_cons, List.length_nil] at this
      omega
    subst hi
    rw [List.getElem?_append_right (Nat.le_refl _), Nat.sub_self] at hy
    have e : x = y := Option.some.inj hy
    subst e
    refine ⟨a, ?_, ha⟩
    rw [← h.1, List.getElem?_append_right (Nat.le_refl _), Nat.sub_self]
    rfl
/-- a list of letters at l -/
def Lts (H : Hp) (l : Addr) (as : List Addr) (ls : List (List Nat)) : Prop := H l = some (.lst (as.map V.ref)) ∧ Tups H as ls

/-! ### the lines' dict -/
def ws (t : Bool) : Str := if t = true then "there" else "back"
def lns (lt lb : Addr) : List (Key × V) := [(.inr "there", .ref lt), (.inr "back", .ref lb)]
def sel (t : Bool) (lt lb : Addr) : Addr := if t = true then lt else lb
theorem tb_ne : ¬ (Sum.inr ("there" : Str) : Key) = Sum.inr ("back" : Str) := by decide +kernel
theorem bt_ne : ¬ (Sum.inr ("back" : Str) : Key) = Sum.inr ("there" : Str) := by decide +kernel
theorem lns_val (t : Bool) (lt lb : Addr) : valV (lns lt lb) (Sum.inr (ws t)) = some (.ref (sel t lt lb)) := by
  cases t with
  | true => exact valV_pos (p := (Sum.inr ("there" : Str), V.ref lt)) rfl
  | false => exact (valV_neg (p := (Sum.inr ("there" : Str), V.ref lt)) tb_ne).trans (valV_pos (p := (Sum.inr ("back" : Str), V.ref lb)) rfl)
theorem lns_put (t : Bool) (lt lb l : Addr) : putK (lns lt lb) (Sum.inr (ws t)) (.ref l) = lns (if t = true then l else lt) (if t = true then lb else l) := by
  unfold putK
  rw [if_pos (by rw [valV_any, lns_val]; rfl)]
  cases t with
  | true =>
    show [if (Sum.inr ("there" : Str) : Key) = Sum.inr ("there" : Str) then _ else _, if (Sum.inr ("back" : Str) : Key) = Sum.inr ("there" : Str) then _ else _] = _
    rw [if_pos rfl, if_neg bt_ne]
    rfl
  | false =>
    show [if (Sum.inr ("there" : Str) : Key) = Sum.inr ("back" : Str) then _ else _, if (Sum.inr ("back" : Str) : Key) = Sum.inr ("back" : Str) then _ else _] = _
    rw [if_neg tb_ne, if_pos rfl]
    rfl
theorem lns_get {H : Hp} {dl lt lb : Addr} (t : Bool) (h : H dl = some (.dK (lns lt lb))) : DGet H dl (.str (ws t)) (some (.ref (sel t lt lb))) := by
  have := DGet.k (k := Sum.inr (ws t)) h
  rwa [lns_val] at this

/-! ### the talk -/
/-- where its objects stand -/
structure TA where
  tk : Addr
  sn : Addr
  tn : Addr
  dl : Addr
  sl : Addr
  tl : Addr
  lt : Addr
  lb : Addr
/-- what its methods change -/
def TA.fp (A : TA) : List Addr := [A.sn, A.dl, A.sl, A.tl, A.lt, A.lb]
structure SendAt (CS : Addr) (w : Nat) (g : Bits) (H : Hp) (sn sl : Addr) (as : List Addr) (ls : List (List Nat)) (k : Nat) : Prop where
  ob : ∃ dx, H sn = some (.ins CS dx (sf w g sl k))
  lt : Lts H sl as ls
structure TakeAt (CK : Addr) (w : Nat) (g : Bits) (H : Hp) (tn tl : Addr) (as : List Addr) (ls : List (List Nat)) : Prop where
  ob : ∃ dx, H tn = some (.ins CK dx (kf w g tl))
  lt : Lts H tl as ls
structure Cs where
  T : Addr
  S : Addr
  K : Addr
structure TalkAt (c : Cs) (w : Nat) (g : Bits) (H : Hp) (A : TA) (s : St) : Prop where
  ob : ∃ dx, H A.tk = some (.ins c.T dx (tf w g A.sn A.tn A.dl))
  send : ∃ as, SendAt c.S w g H A.sn A.sl as s.letters s.known
  take : ∃ as, TakeAt c.K w g H A.tn A.tl as s.taken
  dl : H A.dl = some (.dK (lns A.lt A.lb))
  lt : H A.lt = some (.lst (s.there.map vb))
  lb : H A.lb = some (.lst (s.back.map vb))
  ndI : [A.tk, A.sn, A.tn].Nodup
  ndL : [A.sl, A.tl, A.lt, A.lb].Nodup
section
variable {c : Cs} {w : Nat} {g : Bits} {H H' : Hp} {A : TA} {s : St}
theorem TalkAt.line (T : TalkAt c w g H A s) (t : Bool) : H (sel t A.lt A.lb) = some (.lst ((line s t).map vb)) := by
  cases t with
  | true => exact T.lt
  | false => exact T.lb
structure TA.Ne (A : TA) : Prop where
  ks : A.tk ≠ A.sn
  kn : A.tk ≠ A.tn
  sn : A.sn ≠ A.tn
  a1 : A.sl ≠ A.tl
  a2 : A.sl ≠ A.lt
  a3 : A.sl ≠ A.lb
  a4 : A.tl ≠ A.lt
  a5 : A.tl ≠ A.lb
  a6 : A.lt ≠ A.lb
theorem TalkAt.ne (T : TalkAt c w g H A s) : A.Ne := by
  have h1 := T.ndI
  have h2 := T.ndL
  simp only [List.nodup_cons, List.mem_cons, List.not_mem_nil, or_false, not_or, List.nodup_nil, and_true, not_false_eq_true] at h1 h2
  obtain ⟨⟨h11, h12⟩, h13⟩ := h1
  obtain ⟨⟨h21, h22, h23⟩, ⟨h24, h25⟩, h26⟩ := h2
  exact ⟨h11, h12, h13, h21, h22, h23, h24, h25, h26⟩
/-- a talk at an address where something else happens -/
theorem TalkAt.keep {S : List Addr} (T : TalkAt c w g H A s) (k : Kp S H H') (h : ∀ b ∈ A.fp, b ∉ S) (h1 : A.tk ∉ S) (h2 : A.tn ∉ S) : TalkAt c w g H' A s := by
  obtain ⟨dx, hT⟩ := T.ob
  obtain ⟨as, ⟨ds, hs⟩, hl, ht⟩ := T.send
  obtain ⟨as', ⟨ds', hs'⟩, hl', ht'⟩ := T.take
  have m : ∀ b, b ∈ A.fp → b ∉ S := h
  exact ⟨⟨dx, k.keep _ _ hT h1⟩, ⟨as, ⟨ds, k.keep _ _ hs (m _ (by simp [TA.fp]))⟩, k.keep _ _ hl (m _ (by simp [TA.fp])), ht.mono k.tups⟩,
    ⟨as', ⟨ds', k.keep _ _ hs' h2⟩, k.keep _ _ hl' (m _ (by simp [TA.fp])), ht'.mono k.tups⟩, k.keep _ _ T.dl (m _ (by simp [TA.fp])), k.keep _ _ T.lt (m _ (by simp [TA.fp])), k.keep _ _ T.lb (m _ (by simp [TA.fp])), T.ndI, T.ndL⟩
theorem TalkAt.same (T : TalkAt c w g H A s) (h : Same H H') : TalkAt c w g H' A s := T.keep (S := []) (Kp.same h) (fun _ _ z => by cases z) (fun z => by cases z) fun z => by cases z
end
end Tk
end

section
set_option Elab.async false
set_option maxRecDepth 100000
set_option maxHeartbeats 4000000
set_option linter.unusedVariables false
/-! The sender. -/
namespace Tk
open PySem PySem.Spec PyProof.Rows L2

abbrev sMod : Stmt := top_ 20
abbrev sSI : Stmt := inClass (top_ 21) 0
abbrev sSQ : Stmt := inClass (top_ 21) 1
abbrev sSO : Stmt := inClass (top_ 21) 2
abbrev sSP : Stmt := inClass (top_ 21) 3
abbrev sSPs : Stmt := inClass (top_ 21) 4
abbrev sSH : Stmt := inClass (top_ 21) 5
def spMod : Sp := fun vs H Q _ => ∃ w : Nat, vs = [vn w] ∧ Q (vn (w + 1)) H
def spSI (CS : Addr) : Sp := fun vs H Q _ => ∃ (p dx : Addr) (w : Nat) (g : Bits), vs = [.ref p, vn w, vb g] ∧ H p = some (.ins CS dx []) ∧
  ∀ sl H', SendAt CS w g H' p sl [] [] 0 → H sl = none → (∀ b o, H b = some o → b ≠ p → H' b = some o) → Q .non H'
def spSQ (CS : Addr) : Sp := fun vs H Q _ => ∃ (sn sl a : Addr) (as : List Addr) (ls : List (List Nat)) (k w : Nat) (g : Bits) (x : List Nat), vs = [.ref sn, .ref a] ∧ SendAt CS w g H sn sl as ls k ∧ H a = some (.tup (x.map vn)) ∧ ls.length < 60 ∧
  Q .non (upd H sl (.lst ((as ++ [a]).map V.ref)))
def spSO (CS : Addr) : Sp := fun vs H Q _ => ∃ (sn sl : Addr) (as : List Addr) (ls : List (List Nat)) (k w : Nat) (g : Bits), vs = [.ref sn] ∧ SendAt CS w g H sn sl as ls k ∧ k ≤ ls.length ∧ ls.length ≤ 1000 ∧ w ≤ 1000 ∧
  ∀ p, H p = none → Q (.ref p) (upd H p (.lst ((List.range' k (min (k + w) ls.length - k)).map vn)))
def spSP (CS : Addr) : Sp := fun vs H Q _ => ∃ (sn sl : Addr) (as : List Addr) (ls : List (List Nat)) (k w : Nat) (g : Bits) (a : Nat), vs = [.ref sn, vn a] ∧ SendAt CS w g H sn sl as ls k ∧ Gen g ∧ w ≤ 7 ∧ a < ls.length ∧ (∀ l ∈ ls, l.length ≤ 4 ∧ ∀ x ∈ l, x < 256) ∧
  ∀ H', Same H H' → Q (vb (payl w g ls a)) H'
def spSPs (CS : Addr) : Sp := fun vs H Q _ => ∃ (sn sl : Addr) (as : List Addr) (s : St) (w : Nat) (g : Bits), vs = [.ref sn] ∧ SendAt CS w g H sn sl as s.letters s.known ∧ Gen g ∧ w ≤ 7 ∧ s.known ≤ s.letters.length ∧ s.letters.length ≤ 1000 ∧ (∀ l ∈ s.letters, l.length ≤ 4 ∧ ∀ x ∈ l, x < 256) ∧
  ∀ p H', Same H H' → H p = none → H' p = some (.lst ((window w g s).map vb)) → Q (.ref p) H'
def spSH (CS : Addr) : Sp := fun vs H Q _ => ∃ (sn sl : Addr) (as : List Addr) (s : St) (w : Nat) (g p : Bits), vs = [.ref sn, vb p] ∧ SendAt CS w g H sn sl as s.letters s.known ∧ Gen g ∧ w ≤ 7 ∧ s.known ≤ s.letters.length ∧ s.letters.length ≤ 1000 ∧ p.length ≤ 800 ∧
  ∀ v H', Kp [sn] H H' → (∃ dx, H' sn = some (.ins CS dx (sf w g sl (hearS w g s p)))) → Q v H'
/-- what the walk asks of the class -/
structure TxS (K : PySem.W.Frag) (CS : Addr) : Prop where
  cl : Cls K CS
  nw : NoAttr K CS "window"
  ng : NoAttr K CS "generator"
  nl : NoAttr K CS "letters"
  nd : NoAttr K CS "done"

section
variable {P : Program} {w : World} {K : PySem.W.Frag} {mg : Str → Option Value} {base : Heap} {CS : Addr}
theorem scMod : FnScope ["window"] ["window"] (defScope sMod) := ⟨rfl, rfl, rfl, by decide +kernel, rfl, by decide +kernel, by decide +kernel⟩
theorem ok_mod {f : Addr} {fd : FuncData} (D : Def K mg "modulus_of" sMod ["window"] f fd) : FnOk P w K mg base CX0 1 f fd ["window"] spMod := by
  refine D.fn.ok scMod (fun vs H Q E h => ?_) (fun cdv A outer s H vs Q E hr h => ?_)
  · obtain ⟨n, rfl, _⟩ := h
    rfl
  · obtain ⟨n, rfl, k⟩ := h
    refine ⟨_, pss_one (ps_ret (pe_op op_add (pv 0) pe_int)), ?_⟩
    exact ⟨_, rfl, _, _, rfl, rfl, k⟩

theorem scSI : FnScope ["self", "window", "generator"] ["self", "window", "generator"] (defScope sSI) := ⟨rfl, rfl, rfl, by decide +kernel, rfl, by decide +kernel, by decide +kernel⟩
theorem ok_SI {f : Addr} {fd : FuncData} (F : Fun K "__init__" "Sender.__init__" sSI f fd) (T : TxS K CS) : FnOk P w K mg base CX0 1 f fd ["self", "window", "generator"] (spSI CS) := by
  refine F.ok scSI (fun vs H Q E h => ?_) (fun cdv A outer s H vs Q E hr h => ?_)
  · obtain ⟨p, dx, w, g, rfl, _⟩ := h
    rfl
  · obtain ⟨p, dx, w, g, rfl, hp, k⟩ := h
    refine ⟨_, pss_cons (ps_fld (pv 0) (pv 1) rfl) (pss_cons (ps_fld (pv 0) (pv 2) rfl) (pss_cons (ps_fld (pv 0) (pe_lst pa_nil) rfl) (pss_one (ps_fld (pv 0) pe_int rfl)))), ?_⟩
    refine ⟨_, rfl, _, rfl, p, CS, dx, _, rfl, hp, T.cl, T.nw, (by show 0 < 1000; decide), ?_⟩
    refine ⟨_, rfl, _, rfl, p, CS, dx, _, rfl, upd_same, T.cl, T.ng, (by show 1 < 1000; decide), ?_⟩
    refine ⟨Nat.zero_le _, fun sl hsl => ?_⟩
    rw [putF_new (fs := putF "window" (vn w) []) (vb g) (by show ¬ _ ∈ [("window" : Str)]; decide +kernel), upd_upd] at hsl ⊢
    have nsp : sl ≠ p := fun z => by rw [z, upd_same] at hsl; cases hsl
    have hsl0 : H sl = Option.none := by rw [upd_ne nsp] at hsl; exact hsl
    refine ⟨_, rfl, p, CS, dx, _, rfl, (by rw [upd_ne nsp.symm]; exact upd_same), T.cl, T.nl, (by show 2 < 1000; decide), ?_⟩
    refine ⟨_, rfl, p, CS, dx, _, rfl, upd_same, T.cl, T.nd, ?_, ?_⟩
    · rw [putF_new (.ref sl) (by show ¬ _ ∈ [("window" : Str), "generator"]; decide +kernel)]
      show 3 < 1000
      decide
    · rw [putF_new (.ref sl) (by show ¬ _ ∈ [("window" : Str), "generator"]; decide +kernel), putF_new (.int 0) (by show ¬ _ ∈ kK; decide +kernel), upd_upd]
      refine k sl _ ⟨⟨dx, upd_same⟩, ⟨?_, Tups.nil _⟩⟩ hsl0 fun b o e hb => ?_
      · rw [upd_ne nsp, upd_same]
        rfl
      · rw [upd_ne hb, upd_ne (ne_of_none e hsl0), upd_ne hb]
        exact e

theorem scSQ : FnScope ["self", "letter"] ["self", "letter"] (defScope sSQ) := ⟨rfl, rfl, rfl, by decide +kernel, rfl, by decide +kernel, by decide +kernel⟩
theorem ok_SQ {f : Addr} {fd : FuncData} (F : Fun K "queue" "Sender.queue" sSQ f fd) (T : TxS K CS) (gL : mg "len" = none) (gT : mg "tuple" = none) (hM : ∃ t, mg "LETTERS_MOST" = some (.int 60 t)) : FnOk P w K mg base CX0 1 f fd ["self", "letter"] (spSQ CS) := by
  refine F.ok scSQ (fun vs H Q E h => ?_) (fun cdv A outer s H vs Q E hr h => ?_)
  · obtain ⟨sn, sl, a, as, ls, k, w, g, x, rfl, _⟩ := h
    rfl
  · obtain ⟨sn, sl, a, as, ls, n, w, g, x, rfl, ⟨⟨dx, h1⟩, hl, ht⟩, ha, hlen, k⟩ := h
    obtain ⟨tm, hM⟩ := hM
    refine ⟨_, pss_cons (ps_if (pt_cmpR op_ge (pe_callB call_len_seq (by rfl) gL boot_len (pa_cons (pe_fld (pv 0) rfl) pa_nil)) (pe_glob (v := .int 60) rfl hM ⟨_, rfl⟩) (nomark _)) (pss_one ps_never) pss_nil)
      (pss_one (ps_expr (pe_bm PySem.F.plainAttrs_list PySem.F.slot_list_append PySem.F.type_list_append mt_append (pe_fld (pv 0) rfl) (pa_cons (pe_callTy call_tuple_of (by rfl) gT (by decide +kernel) (pa_cons (pv 1) pa_nil)) pa_nil)))), ?_⟩
    have hal : as.length = ls.length := ht.1
    refine ⟨_, rfl, sn, CS, dx, _, _, rfl, h1, T.cl, T.nl, sf_l, sl, _, rfl, .inl (SqL.of hl), _, _, rfl, rfl, _, rfl, ?_⟩
    rw [List.length_map, decide_eq_false (by omega)]
    refine iteF ?_
    refine ⟨_, rfl, sn, CS, dx, _, _, rfl, h1, T.cl, T.nl, sf_l, .inl ⟨rfl, _, SqL.of hl⟩, _, rfl, a, _, rfl, .inr ⟨SqT.of ha, ?_⟩⟩
    refine ⟨sl, _, _, rfl, rfl, hl, ?_, ?_⟩
    · rw [List.length_map]
      exact line_lt (by omega)
    · rw [List.map_append] at k
      exact k

theorem scSO : FnScope ["self"] ["self"] (defScope sSO) := ⟨rfl, rfl, rfl, by decide +kernel, rfl, by decide +kernel, by decide +kernel⟩
theorem rgV_eq {a b : Nat} : rgV (a : Int) (b : Int) = (List.range' a (b - a)).map vn := by
  unfold rgV
  have e : ((b : Int) - (a : Int)).toNat = b - a := by omega
  rw [e, List.range'_eq_map_range, List.map_map]
  refine List.map_congr_left fun i _ => ?_
  show V.int ((a : Int) + (i : Nat)) = V.int ((a + i : Nat) : Int)
  rw [Int.natCast_add]
theorem min_if (a b : Nat) : (if (b : Int) < (a : Int) then (b : Int) else (a : Int)) = ((min a b : Nat) : Int) := by
  split <;> omega
theorem ok_SO {f : Addr} {fd : FuncData} (F : Fun K "open_letters" "Sender.open_letters" sSO f fd) (T : TxS K CS) (gL : mg "len" = none) (gR : mg "range" = none) (gM : mg "min" = none) (gLi : mg "list" = none) : FnOk P w K mg base CX0 1 f fd ["self"] (spSO CS) := by
  refine F.ok scSO (fun vs H Q E h => ?_) (fun cdv A outer s H vs Q E hr h => ?_)
  · obtain ⟨sn, sl, as, ls, k, w, g, rfl, _⟩ := h
    rfl
  · obtain ⟨sn, sl, as, ls, n, w, g, rfl, ⟨⟨dx, h1⟩, hl, ht⟩, hk, hlen, hw, k⟩ := h
    refine ⟨_, pss_one (ps_ret (pe_listRg rfl rfl gLi (prg_2 rfl gR (pe_fld (pv 0) rfl) (pe_callB (call_min2 rfl) (by rfl) gM (by decide +kernel) (pa_cons (pe_op op_add (pe_fld (pv 0) rfl) (pe_fld (pv 0) rfl)) (pa_cons (pe_callB call_len_seq (by rfl) gL boot_len (pa_cons (pe_fld (pv 0) rfl) pa_nil)) pa_nil)))))), ?_⟩
    have hal : as.length = ls.length := ht.1
    refine ⟨_, rfl, sn, CS, dx, _, _, rfl, h1, T.cl, T.nd, sf_d, _, rfl, sn, CS, dx, _, _, rfl, h1, T.cl, T.nd, sf_d, _, rfl, sn, CS, dx, _, _, rfl, h1, T.cl, T.nw, sf_w, _, _, rfl, rfl, _, rfl, sn, CS, dx, _, _, rfl, h1, T.cl, T.nl, sf_l, sl, _, rfl, .inl (SqL.of hl), _, _, rfl, _, _, rfl, rfl, ?_⟩
    have e : (if ((as.map V.ref).length : Int) < (n : Int) + (w : Int) then ((as.map V.ref).length : Int) else (n : Int) + (w : Int)) = ((min (n + w) ls.length : Nat) : Int) := by
      rw [List.length_map, hal]
      exact min_if (n + w) ls.length
    rw [e]
    refine ⟨RgOk.of_le (by omega) (by omega) (by omega) (by omega), fun p hp => ?_⟩
    rw [rgV_eq]
    exact k p hp

theorem scSP : FnScope ["self", "at"] ["self", "at"] (defScope sSP) := ⟨rfl, rfl, rfl, by decide +kernel, rfl, by decide +kernel, by decide +kernel⟩
theorem mod_w (a w : Nat) : ((a : Int) % ((w + 1 : Nat) : Int)) = ((a % (w + 1) : Nat) : Int) := (Int.natCast_emod a (w + 1)).symm
theorem ok_SP {f : Addr} {fd : FuncData} (F : Fun K "payload" "Sender.payload" sSP f fd) (T : TxS K CS) (cP : Cal P w K mg base CX0 4 "pack" (spPack K)) (cM : Cal P w K mg base CX0 1 "modulus_of" spMod) (gLi : mg "list" = none) :
    FnOk P w K mg base CX0 5 f fd ["self", "at"] (spSP CS) := by
  refine F.ok scSP (fun vs H Q E h => ?_) (fun cdv A outer s H vs Q E hr h => ?_)
  · obtain ⟨sn, sl, as, ls, k, w, g, a, rfl, _⟩ := h
    rfl
  · obtain ⟨sn, sl, as, ls, n, w, g, a, rfl, ⟨⟨dx, h1⟩, hl, ht⟩, hg, hw, ha, hby, k⟩ := h
    refine ⟨_, pss_one (ps_ret (pe_c cP hr pass0 (pa_cons (pe_fld (pv 0) rfl) (pa_cons (pe_op op_cat (pe_lst (pa_cons (pe_op op_mod (pv 1) (pe_c cM hr pass0 (pa_cons (pe_fld (pv 0) rfl) pa_nil))) pa_nil))
      (pe_callTy call_list_of (by rfl) gLi (by decide +kernel) (pa_cons (pe_ix ix_list (pe_fld (pv 0) rfl) (pv 1) (fun _ _ => rfl)) pa_nil))) pa_nil)))), ?_⟩
    obtain ⟨x, hx⟩ : ∃ x, ls[a]? = some x := ⟨ls[a], List.getElem?_eq_getElem ha⟩
    obtain ⟨b, hb, hbt⟩ := ht.2 a x hx
    obtain ⟨hx4, hx256⟩ := hby x (List.mem_of_getElem? hx)
    refine ⟨_, rfl, sn, CS, dx, _, _, rfl, h1, T.cl, T.ng, sf_g, _, rfl, _, rfl, sn, CS, dx, _, _, rfl, h1, T.cl, T.nw, sf_w, w, rfl, _, _, rfl, rfl, (by show (0 : Int) < ((w + 1 : Nat) : Int); omega), (by show 1 ≤ sizeLine; decide), fun p hp => ?_⟩
    have n1 : sn ≠ p := ne_of_none h1 hp
    have n2 : sl ≠ p := ne_of_none hl hp
    have n3 : b ≠ p := ne_of_none hbt hp
    refine ⟨_, rfl, sn, CS, dx, _, _, rfl, (by rw [upd_ne n1]; exact h1), T.cl, T.nl, sf_l, _, rfl, sl, _, _, _, rfl, rfl, SqL.of (by rw [upd_ne n2]; exact hl), atI_nat (v := V.ref b) (by rw [List.getElem?_map, hb]; rfl), b, _, rfl, .inr (SqT.of (by rw [upd_ne n3]; exact hbt)), fun q hq => ?_⟩
    have npq : p ≠ q := ne_of_none upd_same hq
    refine ⟨p, q, _, _, rfl, rfl, (by rw [upd_ne npq]; exact upd_same), upd_same, ?_, fun r hr' => ?_⟩
    · show 1 + (x.map vn).length ≤ sizeLine
      rw [List.length_map]
      exact line_pos (by omega)
    · have s1 : Same H (upd (upd (upd H p (.lst [V.int ((a : Int) % ((w + 1 : Nat) : Int))])) q (.lst (x.map vn))) r (.lst ([V.int ((a : Int) % ((w + 1 : Nat) : Int))] ++ x.map vn))) := Same.new (Same.new (Same.new (Same.refl H) hp) hq) hr'
      have eg : ls.getD a [] = x := by simp [List.getD, hx]
      have ep : payl w g ls a = pack g (a % (w + 1) :: x) := by unfold payl; rw [eg]
      have hm := Nat.mod_lt a (show 0 < w + 1 by omega)
      refine ⟨g, r, a % (w + 1) :: x, rfl, hg, SqL.of ?_, ?_, fun y hy => ?_, fun H' s2 => ?_⟩
      · rw [upd_same]
        show some (HO.lst ([V.int ((a : Int) % ((w + 1 : Nat) : Int))] ++ x.map vn)) = _
        rw [mod_w]
        rfl
      · rw [List.length_cons]; omega
      · rcases List.mem_cons.mp hy with e | hy
        · rw [e]; omega
        · have := hx256 y hy; omega
      · rw [← ep]
        exact k H' (s1.trans s2)

theorem scSPs : FnScope ["self", "at"] ["self"] (defScope sSPs) := ⟨rfl, rfl, rfl, by decide +kernel, rfl, by decide +kernel, by decide +kernel⟩
theorem range'_at {a n i : Nat} {x : Nat} (h : (List.range' a n)[i]? = some x) : x = a + i ∧ i < n := by
  have hi := (List.getElem?_eq_some_iff.mp h).1
  rw [List.length_range'] at hi
  rw [List.getElem?_range' hi] at h
  have := Option.some.inj h
  omega
theorem SendAt.same {H H' : Hp} {ww : Nat} {g : Bits} {sn sl : Addr} {as : List Addr} {ls : List (List Nat)} {k : Nat} (S : SendAt CS ww g H sn sl as ls k) (h : Same H H') : SendAt CS ww g H' sn sl as ls k :=
  ⟨let ⟨dx, e⟩ := S.ob; ⟨dx, h _ _ e⟩, h _ _ S.lt.1, S.lt.2.mono fun b xs e => h b _ e⟩
theorem ok_SPs {f : Addr} {fd : FuncData} (F : Fun K "payloads" "Sender.payloads" sSPs f fd) (T : TxS K CS) (mO : Met P w K mg base CX0 1 CS "open_letters" (spSO CS)) (mP : Met P w K mg base CX0 5 CS "payload" (spSP CS)) : FnOk P w K mg base CX0 6 f fd ["self"] (spSPs CS) := by
  refine F.ok scSPs (fun vs H Q E h => ?_) (fun cdv A outer s H vs Q E hr h => ?_)
  · obtain ⟨sn, sl, as, s, w, g, rfl, _⟩ := h
    rfl
  · obtain ⟨sn, sl, as, st, w, g, rfl, S, hg, hw, hk, hlen, hby, k⟩ := h
    refine ⟨_, pss_one (ps_ret (pe_lc (own := [("at", 1)]) (g := gName 1) (tt := tYes) rfl scSPs.nd (pi_list (pe_mt0 mO hr pass0 (pv 0))) (blkOk_by (N := ["self", "at"]) (sc := defScope sSPs) (by decide +kernel))
      (fun _ _ _ _ _ => pg_name (i := 1) scSPs.nd rfl (Or.inl rfl)) (fun _ _ _ _ _ => pts_nil) (fun _ _ _ _ _ => pe_mt mP hr pass0 (pv 0) (pa_cons (pv 1) pa_nil)))), ?_⟩
    obtain ⟨dx, h1⟩ := S.ob
    refine ⟨_, rfl, sn, dx, _, rfl, h1, sf_no (by decide +kernel), sn, sl, as, st.letters, st.known, w, g, rfl, S, hk, hlen, by omega, fun p hp => ?_⟩
    refine ⟨p, rfl, ⟨_, SqL.of upd_same⟩, fun D hD => ?_⟩
    have npD : p ≠ D := ne_of_none upd_same hD
    have sD : Same H (upd (upd H p (.lst ((List.range' st.known (min (st.known + w) st.letters.length - st.known)).map vn))) D (.lst [])) := Same.new (Same.new (Same.refl H) hp) hD
    have hDn : H D = Option.none := by rw [upd_ne npD.symm] at hD; exact hD
    refine lc_list (K := K) (a := p) (xs := (List.range' st.known (min (st.known + w) st.letters.length - st.known)).map vn) (fun i H' => Same H H' ∧ H' p = some (.lst ((List.range' st.known (min (st.known + w) st.letters.length - st.known)).map vn)) ∧ H' D = some (.lst (((window w g st).take i).map vb))) ⟨sD, by rw [upd_ne npD]; exact upd_same, upd_same⟩ (fun i H' _ ⟨_, hp', _⟩ => SqL.of hp') ?_ ?_
    · rintro i x H' hi ⟨s1, hp', hd⟩
      obtain ⟨n, hn, rfl⟩ : ∃ n, (List.range' st.known (min (st.known + w) st.letters.length - st.known))[i]? = some n ∧ x = vn n := by
        rw [List.getElem?_map] at hi
        cases e : (List.range' st.known (min (st.known + w) st.letters.length - st.known))[i]? with
        | none => rw [e] at hi; cases hi
        | some n => rw [e] at hi; exact ⟨n, rfl, (Option.some.inj hi).symm⟩
      obtain ⟨en, hilt⟩ := range'_at hn
      have S' := S.same s1
      obtain ⟨dx', h1'⟩ := S'.ob
      refine ⟨rfl, _, rfl, sn, dx', _, rfl, h1', sf_no (by decide +kernel), _, rfl, sn, sl, as, st.letters, st.known, w, g, n, rfl, S', hg, hw, by omega, hby, fun H2 s2 => ?_⟩
      have hw' : (window w g st)[i]? = some (payl w g st.letters n) := by
        unfold window
        rw [List.getElem?_map]
        show Option.map _ (List.range' st.known (min (st.known + w) st.letters.length - st.known))[i]? = _
        rw [hn]
        rfl
      refine ⟨_, s2 _ _ hd, ?_, ?_, ?_, ?_⟩
      · rw [List.length_map, List.length_take]
        refine line_lt ?_
        have : i ≤ 1000 := by omega
        omega
      · intro b o e
        rw [upd_ne (ne_of_none e hDn)]
        exact s2 _ _ (s1 b o e)
      · rw [upd_ne npD]
        exact s2 _ _ hp'
      · rw [upd_same, take_next hw', List.map_append]
        rfl
    · rintro H' ⟨s1, _, hd⟩
      rw [List.length_map, List.length_range'] at hd
      have e : (window w g st).take (min (st.known + w) st.letters.length - st.known) = window w g st := by
        refine List.take_of_length_le ?_
        unfold window top
        rw [List.length_map, List.length_range']
        exact Nat.le_refl _
      rw [e] at hd
      exact k D H' s1 hDn hd

theorem scSH : FnScope ["self", "payload", "numbers", "steps"] ["self", "payload"] (defScope sSH) := ⟨rfl, rfl, rfl, by decide +kernel, rfl, by decide +kernel, by decide +kernel⟩
theorem dec_vn (x n : Nat) (m : Int) (h : m = (n : Int)) : decide (vn x = V.int m) = decide (x = n) := by
  subst h
  by_cases c : x = n
  · subst c
    rw [decide_eq_true (show vn x = V.int (x : Int) from rfl), decide_eq_true (show x = x from rfl)]
  · rw [decide_eq_false c, decide_eq_false]
    intro z
    have z' : V.int (x : Int) = V.int (n : Int) := z
    injection z' with z'
    omega
theorem hearS_none {w : Nat} {g p : Bits} {s : St} (h : unpack g p = none) : hearS w g s p = s.known := by unfold hearS; rw [h]
theorem hearS_len {w : Nat} {g p : Bits} {s : St} {ns : List Nat} (h : unpack g p = some ns) (hl : ns.length ≠ 1) : hearS w g s p = s.known := by
  unfold hearS
  rw [h]
  cases ns with
  | nil => rfl
  | cons x r =>
    cases r with
    | nil => exact absurd rfl hl
    | cons y r => rfl
theorem hearS_one {w x : Nat} {g p : Bits} {s : St} (h : unpack g p = some [x]) : hearS w g s p = if x ≤ w then (if stepsOf w x s.known ≤ top w s - s.known then s.known + stepsOf w x s.known else s.known) else s.known := by
  unfold hearS
  rw [h]
theorem stepsOf_int (w x k : Nat) : (((x : Int) - (k : Int)) % ((w + 1 : Nat) : Int)) = (stepsOf w x k : Int) := by
  unfold stepsOf
  have h := Int.emod_nonneg ((x : Int) - (k : Int)) (show ((w : Int) + 1) ≠ 0 by omega)
  have e : ((w + 1 : Nat) : Int) = (w : Int) + 1 := by omega
  rw [e]
  omega
theorem ok_SH {f : Addr} {fd : FuncData} (F : Fun K "hear" "Sender.hear" sSH f fd) (T : TxS K CS) (cU : Cal P w K mg base CX0 5 "unpack" spUnpack) (cM : Cal P w K mg base CX0 1 "modulus_of" spMod) (mO : Met P w K mg base CX0 1 CS "open_letters" (spSO CS)) (gL : mg "len" = none) :
    FnOk P w K mg base CX0 6 f fd ["self", "payload"] (spSH CS) := by
  refine F.ok scSH (fun vs H Q E h => ?_) (fun cdv A outer s H vs Q E hr h => ?_)
  · obtain ⟨sn, sl, as, s, w, g, p, rfl, _⟩ := h
    rfl
  · obtain ⟨sn, sl, as, st, w, g, p, rfl, S, hg, hw, hk, hlen, hpl, k⟩ := h
    refine ⟨_, pss_cons (ps_set (i := 2) scSH.nd rfl (Or.inl rfl) (pe_c cU hr pass0 (pa_cons (pe_fld (pv 0) rfl) (pa_cons (pv 1) pa_nil))))
      (pss_cons (ps_if (PW.pt (pw_or (pt_cmpR op_isN (pv 2) pe_non (nomark _)) (pw_or (pt_cmpR op_ne (pe_callB call_len_seq (by rfl) gL boot_len (pa_cons (pv 2) pa_nil)) pe_int (nomark _))
          (pw_or1 (pt_cmpR op_ge (pe_ix ix_list (pv 2) pe_int (fun _ _ => rfl)) (pe_c cM hr pass0 (pa_cons (pe_fld (pv 0) rfl) pa_nil)) (nomark _)))))) (pss_one (ps_ret pe_int)) pss_nil)
      (pss_cons (ps_set (i := 3) scSH.nd rfl (Or.inl rfl) (pe_op op_mod (pe_op op_sub (pe_ix ix_list (pv 2) pe_int (fun _ _ => rfl)) (pe_fld (pv 0) rfl)) (pe_c cM hr pass0 (pa_cons (pe_fld (pv 0) rfl) pa_nil))))
      (pss_cons (ps_if (pt_cmpR op_gt (pv 3) (pe_callB call_len_seq (by rfl) gL boot_len (pa_cons (pe_mt0 mO hr pass0 (pv 0)) pa_nil)) (nomark _)) (pss_one (ps_ret pe_int)) pss_nil)
      (pss_cons (ps_fld (pv 0) (pe_op op_add (pe_fld (pv 0) rfl) (pv 3)) rfl)
      (pss_one (ps_ret (pv 3))))))), ?_⟩
    obtain ⟨dx, h1⟩ := S.ob
    have quit : ∀ v H', Same H H' → hearS w g st p = st.known → Q v H' := fun v H' s1 e => k v H' (Kp.same s1) ⟨dx, by rw [e]; exact s1 _ _ h1⟩
    refine ⟨_, rfl, sn, CS, dx, _, _, rfl, h1, T.cl, T.ng, sf_g, _, rfl, g, p, rfl, hg, hpl, fun e H1 s1 => ?_, fun ns e q H1 s1 nq hq => ?_⟩
    · -- numbers is None
      refine ⟨_, rfl, rfl, _, rfl, iteT ?_⟩
      exact iteT (quit _ H1 s1 (hearS_none e))
    · have h1' := s1 _ _ h1
      refine ⟨_, rfl, rfl, _, rfl, iteF ?_⟩
      refine ⟨_, rfl, q, _, rfl, .inl (SqL.of hq), rfl, _, rfl, ?_⟩
      by_cases c1 : ns.length = 1
      · obtain ⟨x, rfl⟩ : ∃ x, ns = [x] := by
          cases ns with
          | nil => cases c1
          | cons x r =>
            cases r with
            | nil => exact ⟨x, rfl⟩
            | cons y r => simp at c1
        refine iteF ?_
        refine ⟨_, rfl, q, _, _, _, rfl, rfl, SqL.of hq, atI_nat (j := 0) rfl, _, rfl, sn, CS, dx, _, _, rfl, h1', T.cl, T.nw, sf_w, w, rfl, _, _, rfl, rfl, _, rfl, ?_⟩
        by_cases c2 : x ≤ w
        · rw [decide_eq_false (show ¬ (((w + 1 : Nat) : Int) ≤ (x : Int)) by omega)]
          refine iteF ?_
          refine ⟨_, rfl, q, _, _, _, rfl, rfl, SqL.of hq, atI_nat (j := 0) rfl, _, rfl, sn, CS, dx, _, _, rfl, h1', T.cl, T.nd, sf_d, _, _, rfl, rfl, _, rfl, sn, CS, dx, _, _, rfl, h1', T.cl, T.nw, sf_w, w, rfl, _, _, rfl, rfl, (by show (0 : Int) < ((w + 1 : Nat) : Int); omega), ?_⟩
          refine ⟨_, rfl, _, rfl, sn, dx, _, rfl, h1', sf_no (by decide +kernel), sn, sl, as, st.letters, st.known, w, g, rfl, S.same s1, hk, hlen, by omega, fun r hrn => ?_⟩
          have s2 := Same.new s1 hrn (o := .lst ((List.range' st.known (min (st.known + w) st.letters.length - st.known)).map vn))
          refine ⟨r, _, rfl, .inl (SqL.of upd_same), _, _, rfl, rfl, _, rfl, ?_⟩
          rw [List.length_map, List.length_range', stepsOf_int]
          have ht : min (st.known + w) st.letters.length = top w st := rfl
          rw [ht]
          have eh := hearS_one (w := w) (s := st) e
          rw [if_pos c2] at eh
          by_cases c3 : stepsOf w x st.known ≤ top w st - st.known
          · rw [decide_eq_false (by omega)]
            rw [if_pos c3] at eh
            refine iteF ?_
            have h2 := s2 _ _ h1
            refine ⟨_, rfl, sn, CS, dx, _, _, rfl, h2, T.cl, T.nd, sf_d, _, rfl, _, _, rfl, rfl, _, rfl, sn, CS, dx, _, rfl, h2, T.cl, T.nd, (by show 4 < 1000; decide), ?_⟩
            refine ⟨_, rfl, k _ _ ((Kp.same s2).put (by simp) (not_tup_ins h2)) ⟨dx, ?_⟩⟩
            rw [upd_same, eh]
            show some (HO.ins CS dx (putF "done" (V.int ((st.known : Int) + (((x : Int) - (st.known : Int)) % ((w + 1 : Nat) : Int)))) (sf w g sl st.known))) = _
            rw [stepsOf_int, ← Int.natCast_add]
            exact congrArg (fun z => some (HO.ins CS dx z)) (sf_put _)
          · rw [decide_eq_true (by omega)]
            rw [if_neg c3] at eh
            exact iteT (quit _ _ s2 eh)
        · rw [decide_eq_true (show (((w + 1 : Nat) : Int) ≤ (x : Int)) by omega)]
          have eh := hearS_one (w := w) (s := st) e
          rw [if_neg c2] at eh
          exact iteT (quit _ H1 s1 eh)
      · have hz : decide (V.int (((ns.map vn).length : Nat) : Int) = V.int 1) = false := decide_eq_false (fun z => by
          injection z with z
          rw [List.length_map] at z
          omega)
        show if (!decide (V.int (((ns.map vn).length : Nat) : Int) = V.int 1)) = true then _ else _
        rw [hz]
        refine iteT (iteT ?_)
        exact quit _ H1 s1 (hearS_len e c1)
end
end Tk
end

section
set_option Elab.async false
set_option maxRecDepth 100000
set_option maxHeartbeats 4000000
set_option linter.unusedVariables false
/-! The taker. -/
namespace Tk
open PySem PySem.Spec PyProof.Rows L2

abbrev sKI : Stmt := inClass (top_ 22) 0
abbrev sKA : Stmt := inClass (top_ 22) 1
abbrev sKH : Stmt := inClass (top_ 22) 2
def spKI (CK : Addr) : Sp := fun vs H Q _ => ∃ (p dx : Addr) (w : Nat) (g : Bits), vs = [.ref p, vn w, vb g] ∧ H p = some (.ins CK dx []) ∧
  ∀ tl H', TakeAt CK w g H' p tl [] [] → H tl = none → (∀ b o, H b = some o → b ≠ p → H' b = some o) → Q .non H'
def spKA (CK : Addr) : Sp := fun vs H Q _ => ∃ (tn tl : Addr) (as : List Addr) (ls : List (List Nat)) (w : Nat) (g : Bits), vs = [.ref tn] ∧ TakeAt CK w g H tn tl as ls ∧ Gen g ∧ w ≤ 7 ∧ ls.length ≤ 1000 ∧
  ∀ H', Same H H' → Q (vb (ans w g ls)) H'
def spKH (CK : Addr) : Sp := fun vs H Q _ => ∃ (tn tl : Addr) (as : List Addr) (ls : List (List Nat)) (w : Nat) (g p : Bits), vs = [.ref tn, vb p] ∧ TakeAt CK w g H tn tl as ls ∧ Gen g ∧ w ≤ 7 ∧ ls.length ≤ 900 ∧ p.length ≤ 800 ∧
  (hearT w g ls p = none → ∀ H', Same H H' → Q .non H') ∧ ∀ ls', hearT w g ls p = some ls' → ∀ H' as', Kp [tl] H H' → Lts H' tl as' ls' → Q (vb (ans w g ls')) H'
structure TxK (K : PySem.W.Frag) (CK : Addr) : Prop where
  cl : Cls K CK
  nw : NoAttr K CK "window"
  ng : NoAttr K CK "generator"
  nl : NoAttr K CK "letters"

section
variable {P : Program} {w : World} {K : PySem.W.Frag} {mg : Str → Option Value} {base : Heap} {CK : Addr}
theorem scKI : FnScope ["self", "window", "generator"] ["self", "window", "generator"] (defScope sKI) := ⟨rfl, rfl, rfl, by decide +kernel, rfl, by decide +kernel, by decide +kernel⟩
theorem ok_KI {f : Addr} {fd : FuncData} (F : Fun K "__init__" "Taker.__init__" sKI f fd) (T : TxK K CK) : FnOk P w K mg base CX0 1 f fd ["self", "window", "generator"] (spKI CK) := by
  refine F.ok scKI (fun vs H Q E h => ?_) (fun cdv A outer s H vs Q E hr h => ?_)
  · obtain ⟨p, dx, w, g, rfl, _⟩ := h
    rfl
  · obtain ⟨p, dx, w, g, rfl, hp, k⟩ := h
    refine ⟨_, pss_cons (ps_fld (pv 0) (pv 1) rfl) (pss_cons (ps_fld (pv 0) (pv 2) rfl) (pss_one (ps_fld (pv 0) (pe_lst pa_nil) rfl))), ?_⟩
    refine ⟨_, rfl, _, rfl, p, CK, dx, _, rfl, hp, T.cl, T.nw, (by show 0 < 1000; decide), ?_⟩
    refine ⟨_, rfl, _, rfl, p, CK, dx, _, rfl, upd_same, T.cl, T.ng, (by show 1 < 1000; decide), ?_⟩
    refine ⟨Nat.zero_le _, fun sl hsl => ?_⟩
    rw [putF_new (fs := putF "window" (vn w) []) (vb g) (by show ¬ _ ∈ [("window" : Str)]; decide +kernel), upd_upd] at hsl ⊢
    have nsp : sl ≠ p := fun z => by rw [z, upd_same] at hsl; cases hsl
    have hsl0 : H sl = Option.none := by rw [upd_ne nsp] at hsl; exact hsl
    refine ⟨_, rfl, p, CK, dx, _, rfl, (by rw [upd_ne nsp.symm]; exact upd_same), T.cl, T.nl, (by show 2 < 1000; decide), ?_⟩
    rw [putF_new (.ref sl) (by show ¬ _ ∈ [("window" : Str), "generator"]; decide +kernel)]
    refine k sl _ ⟨⟨dx, upd_same⟩, ⟨?_, Tups.nil _⟩⟩ hsl0 fun b o e hb => ?_
    · rw [upd_ne nsp, upd_same]
      rfl
    · rw [upd_ne hb, upd_ne (ne_of_none e hsl0), upd_ne hb]
      exact e

theorem scKA : FnScope ["self"] ["self"] (defScope sKA) := ⟨rfl, rfl, rfl, by decide +kernel, rfl, by decide +kernel, by decide +kernel⟩
theorem ok_KA {f : Addr} {fd : FuncData} (F : Fun K "answer" "Taker.answer" sKA f fd) (T : TxK K CK) (cP : Cal P w K mg base CX0 4 "pack" (spPack K)) (cM : Cal P w K mg base CX0 1 "modulus_of" spMod) (gL : mg "len" = none) :
    FnOk P w K mg base CX0 5 f fd ["self"] (spKA CK) := by
  refine F.ok scKA (fun vs H Q E h => ?_) (fun cdv A outer s H vs Q E hr h => ?_)
  · obtain ⟨tn, tl, as, ls, w, g, rfl, _⟩ := h
    rfl
  · obtain ⟨tn, tl, as, ls, w, g, rfl, ⟨⟨dx, h1⟩, hl, ht⟩, hg, hw, hlen, k⟩ := h
    refine ⟨_, pss_one (ps_ret (pe_c cP hr pass0 (pa_cons (pe_fld (pv 0) rfl) (pa_cons (pe_lst (pa_cons (pe_op op_mod (pe_callB call_len_seq (by rfl) gL boot_len (pa_cons (pe_fld (pv 0) rfl) pa_nil)) (pe_c cM hr pass0 (pa_cons (pe_fld (pv 0) rfl) pa_nil))) pa_nil)) pa_nil)))), ?_⟩
    have hal : as.length = ls.length := ht.1
    refine ⟨_, rfl, tn, CK, dx, _, _, rfl, h1, T.cl, T.ng, kf_g, _, rfl, tn, CK, dx, _, _, rfl, h1, T.cl, T.nl, kf_l, tl, _, rfl, .inl (SqL.of hl), _, rfl, tn, CK, dx, _, _, rfl, h1, T.cl, T.nw, kf_w, w, rfl, _, _, rfl, rfl, (by show (0 : Int) < ((w + 1 : Nat) : Int); omega), (by show 1 ≤ sizeLine; decide), fun p hp => ?_⟩
    have hm := Nat.mod_lt ls.length (show 0 < w + 1 by omega)
    refine ⟨g, p, [ls.length % (w + 1)], rfl, hg, SqL.of ?_, (by show 1 ≤ 100; decide), fun y hy => ?_, fun H' s2 => ?_⟩
    · rw [upd_same]
      show some (HO.lst [V.int (((as.map V.ref).length : Int) % ((w + 1 : Nat) : Int))]) = _
      rw [List.length_map, hal, mod_w]
      rfl
    · rw [List.mem_singleton.mp hy]; omega
    · exact k H' ((Same.new (Same.refl H) hp).trans s2)

theorem scKH : FnScope ["self", "payload", "numbers"] ["self", "payload"] (defScope sKH) := ⟨rfl, rfl, rfl, by decide +kernel, rfl, by decide +kernel, by decide +kernel⟩
theorem TakeAt.same {H H' : Hp} {ww : Nat} {g : Bits} {tn tl : Addr} {as : List Addr} {ls : List (List Nat)} (S : TakeAt CK ww g H tn tl as ls) (h : Same H H') : TakeAt CK ww g H' tn tl as ls :=
  ⟨let ⟨dx, e⟩ := S.ob; ⟨dx, h _ _ e⟩, h _ _ S.lt.1, S.lt.2.mono fun b _ e => h b _ e⟩
theorem hearT_none {w : Nat} {g p : Bits} {tk : List (List Nat)} (h : unpack g p = none) : hearT w g tk p = none := by unfold hearT; rw [h]
theorem hearT_nil {w : Nat} {g p : Bits} {tk : List (List Nat)} (h : unpack g p = some []) : hearT w g tk p = none := by unfold hearT; rw [h]
theorem hearT_cons {w x : Nat} {g p : Bits} {tk : List (List Nat)} {ys : List Nat} (h : unpack g p = some (x :: ys)) : hearT w g tk p = if x ≤ w then some (if x = tk.length % (w + 1) then tk ++ [ys] else tk) else none := by
  unfold hearT
  rw [h]
theorem cutV_tail (x : V) (ys : List V) : cutV (x :: ys) (some 1) none = ys := by
  unfold cutV
  have e : HT.sIx (x :: ys).length 0 (some 1) = 1 := by
    have := HT.sIx_nat (x :: ys).length 0 1
    rw [List.length_cons] at this ⊢
    exact this.trans (by omega)
  rw [e, HT.sIx_none]
  show ys.take ((x :: ys).length - 1) = ys
  rw [List.length_cons]
  exact List.take_of_length_le (by omega)
theorem ok_KH {f : Addr} {fd : FuncData} (F : Fun K "hear" "Taker.hear" sKH f fd) (T : TxK K CK) (cU : Cal P w K mg base CX0 5 "unpack" spUnpack) (cM : Cal P w K mg base CX0 1 "modulus_of" spMod) (mA : Met P w K mg base CX0 5 CK "answer" (spKA CK)) (gL : mg "len" = none) (gT : mg "tuple" = none) :
    FnOk P w K mg base CX0 6 f fd ["self", "payload"] (spKH CK) := by
  refine F.ok scKH (fun vs H Q E h => ?_) (fun cdv A outer s H vs Q E hr h => ?_)
  · obtain ⟨tn, tl, as, ls, w, g, p, rfl, _⟩ := h
    rfl
  · obtain ⟨tn, tl, as, ls, w, g, p, rfl, S, hg, hw, hlen, hpl, kN, kS⟩ := h
    refine ⟨_, pss_cons (ps_set (i := 2) scKH.nd rfl (Or.inl rfl) (pe_c cU hr pass0 (pa_cons (pe_fld (pv 0) rfl) (pa_cons (pv 1) pa_nil))))
      (pss_cons (ps_if (PW.pt (pw_or (pt_cmpR op_isN (pv 2) pe_non (nomark _)) (pw_or (pt_not (pt_truth (pv 2) (by intro _; rfl)))
          (pw_or1 (pt_cmpR op_ge (pe_ix ix_list (pv 2) pe_int (fun _ _ => rfl)) (pe_c cM hr pass0 (pa_cons (pe_fld (pv 0) rfl) pa_nil)) (nomark _)))))) (pss_one (ps_ret pe_non)) pss_nil)
      (pss_cons (ps_if (pt_cmpR op_eq (pe_ix ix_list (pv 2) pe_int (fun _ _ => rfl)) (pe_op op_mod (pe_callB call_len_seq (by rfl) gL boot_len (pa_cons (pe_fld (pv 0) rfl) pa_nil)) (pe_c cM hr pass0 (pa_cons (pe_fld (pv 0) rfl) pa_nil))) (nomark _))
        (pss_one (ps_expr (pe_bm PySem.F.plainAttrs_list PySem.F.slot_list_append PySem.F.type_list_append mt_append (pe_fld (pv 0) rfl) (pa_cons (pe_callTy call_tuple_of (by rfl) gT (by decide +kernel) (pa_cons (pe_slice sl_list (pv 2) (po_some pe_int) po_none) pa_nil)) pa_nil)))) pss_nil)
      (pss_one (ps_ret (pe_mt0 mA hr pass0 (pv 0)))))), ?_⟩
    obtain ⟨⟨dx, h1⟩, hl, ht⟩ := id S
    have hal : as.length = ls.length := ht.1
    refine ⟨_, rfl, tn, CK, dx, _, _, rfl, h1, T.cl, T.ng, kf_g, _, rfl, g, p, rfl, hg, hpl, fun e H1 s1 => ?_, fun ns e q H1 s1 nq hq => ?_⟩
    · refine ⟨_, rfl, rfl, _, rfl, iteT ?_⟩
      exact iteT (kN (hearT_none e) H1 s1)
    · have h1' := s1 _ _ h1
      have hl' := s1 _ _ hl
      refine ⟨_, rfl, rfl, _, rfl, iteF ?_⟩
      refine ⟨_, rfl, !(ns.map vn).isEmpty, .inl ⟨_, SqL.of hq, rfl⟩, ?_⟩
      cases ns with
      | nil =>
        refine iteT (iteT ?_)
        exact kN (hearT_nil e) H1 s1
      | cons x ys =>
        refine iteF ?_
        refine ⟨_, rfl, q, _, _, _, rfl, rfl, SqL.of hq, atI_nat (j := 0) rfl, _, rfl, tn, CK, dx, _, _, rfl, h1', T.cl, T.nw, kf_w, w, rfl, _, _, rfl, rfl, _, rfl, ?_⟩
        have eh := hearT_cons (w := w) (tk := ls) e
        by_cases c2 : x ≤ w
        · rw [decide_eq_false (show ¬ (((w + 1 : Nat) : Int) ≤ (x : Int)) by omega)]
          rw [if_pos c2] at eh
          refine iteF ?_
          refine ⟨_, rfl, q, _, _, _, rfl, rfl, SqL.of hq, atI_nat (j := 0) rfl, _, rfl, tn, CK, dx, _, _, rfl, h1', T.cl, T.nl, kf_l, tl, _, rfl, .inl (SqL.of hl'), _, rfl, tn, CK, dx, _, _, rfl, h1', T.cl, T.nw, kf_w, w, rfl, _, _, rfl, rfl, (by show (0 : Int) < ((w + 1 : Nat) : Int); omega), rfl, _, rfl, ?_⟩
          have ed : decide (vn x = V.int (((as.map V.ref).length : Int) % ((w + 1 : Nat) : Int))) = decide (x = ls.length % (w + 1)) := dec_vn x _ _ (by rw [List.length_map, hal, mod_w])
          show if decide (vn x = V.int (((as.map V.ref).length : Int) % ((w + 1 : Nat) : Int))) = true then _ else _
          rw [ed]
          by_cases c3 : x = ls.length % (w + 1)
          · rw [decide_eq_true c3]
            rw [if_pos c3] at eh
            refine iteT ?_
            refine ⟨_, rfl, tn, CK, dx, _, _, rfl, h1', T.cl, T.nl, kf_l, .inl ⟨rfl, _, SqL.of hl'⟩, _, rfl, _, rfl, q, _, rfl, SqL.of hq, fun r hrn => ?_⟩
            have s2 := Same.new s1 hrn (o := .lst (cutV (List.map vn (x :: ys)) (some 1) Option.none))
            refine ⟨r, _, rfl, .inl ⟨SqL.of upd_same, fun u hu => ?_⟩⟩
            have s3 := Same.new s2 hu (o := .tup (cutV (List.map vn (x :: ys)) (some 1) Option.none))
            have hl3 := s3 _ _ hl
            have ht3 := s3 _ _ h1
            refine ⟨tl, _, _, rfl, rfl, hl3, ?_, ?_⟩
            · rw [List.length_map]
              exact line_lt (by omega)
            have kp := (Kp.same s3).put (S := [tl]) (a := tl) (o := .lst (as.map V.ref ++ [V.ref u])) (by simp) (not_tup_lst hl3)
            have nut : u ≠ tl := (ne_of_none (s2 _ _ hl) hu).symm
            have hu4 : (upd (upd (upd H1 r (.lst (cutV (List.map vn (x :: ys)) (some 1) Option.none))) u (.tup (cutV (List.map vn (x :: ys)) (some 1) Option.none))) tl (.lst (as.map V.ref ++ [V.ref u]))) u = some (.tup (ys.map vn)) := by
              rw [upd_ne nut, upd_same, List.map_cons, cutV_tail]
            have lt4 : Lts (upd (upd (upd H1 r (.lst (cutV (List.map vn (x :: ys)) (some 1) Option.none))) u (.tup (cutV (List.map vn (x :: ys)) (some 1) Option.none))) tl (.lst (as.map V.ref ++ [V.ref u]))) tl (as ++ [u]) (ls ++ [ys]) :=
              ⟨by rw [upd_same, List.map_append]; rfl, (ht.mono kp.tups).snoc hu4⟩
            have ntt : tn ≠ tl := fun z => by rw [z, hl] at h1; cases h1
            refine ⟨_, rfl, tn, dx, _, rfl, kp.keep _ _ h1 (by simpa using ntt), kf_no (by decide +kernel), tn, tl, as ++ [u], ls ++ [ys], w, g, rfl, ⟨⟨dx, kp.keep _ _ h1 (by simpa using ntt)⟩, lt4⟩, hg, hw, ?_, fun H4 s4 => ?_⟩
            · rw [List.length_append]
              simp only [List.length_cons, List.length_nil]
              omega
            · exact kS _ eh H4 (as ++ [u]) (kp.trans (Kp.same s4)) ⟨s4 _ _ lt4.1, lt4.2.mono fun b _ e => s4 b _ e⟩
          · rw [decide_eq_false c3]
            rw [if_neg c3] at eh
            refine iteF ?_
            have S1 := S.same s1
            refine ⟨_, rfl, tn, dx, _, rfl, h1', kf_no (by decide +kernel), tn, tl, as, ls, w, g, rfl, S1, hg, hw, by omega, fun H4 s4 => ?_⟩
            have S4 := S1.same s4
            exact kS _ eh H4 as (Kp.same (s1.trans s4)) S4.lt
        · rw [decide_eq_true (show (((w + 1 : Nat) : Int) ≤ (x : Int)) by omega)]
          rw [if_neg c2] at eh
          exact iteT (kN eh H1 s1)
end
end Tk
end

section
set_option Elab.async false
set_option maxRecDepth 100000
set_option maxHeartbeats 4000000
set_option linter.unusedVariables false
/-! The talk: made, asked, filled. -/
namespace Tk
open PySem PySem.Spec PyProof.Rows L2

abbrev sTM (i : Nat) : Stmt := inClass (top_ 23) i
/-- what a talk's method leaves -/
structure Stp (c : Cs) (w : Nat) (g : Bits) (H : Hp) (A : TA) (H' : Hp) (A' : TA) (s' : St) : Prop where
  ok : TalkAt c w g H' A' s'
  kp : Kp A.fp H H'
  tk : A'.tk = A.tk
  tn : A'.tn = A.tn
  fp : ∀ b ∈ A'.fp, b ∈ A.fp ∨ H b = none
section
variable {c : Cs} {w : Nat} {g : Bits} {H H1 H2 : Hp} {A A1 A2 : TA} {s s1 s2 : St}
theorem Stp.refl (T : TalkAt c w g H A s) : Stp c w g H A H A s := ⟨T, Kp.refl _ _, rfl, rfl, fun b h => .inl h⟩
theorem Stp.trans (x : Stp c w g H A H1 A1 s1) (y : Stp c w g H1 A1 H2 A2 s2) : Stp c w g H A H2 A2 s2 := by
  refine ⟨y.ok, ⟨fun b o e hb => ?_, fun b xs e => y.kp.tups b xs (x.kp.tups b xs e)⟩, y.tk.trans x.tk, y.tn.trans x.tn, fun b hb => ?_⟩
  · refine y.kp.keep b o (x.kp.keep b o e hb) fun z => ?_
    rcases x.fp b z with z | z
    · exact hb z
    · rw [z] at e; cases e
  · rcases y.fp b hb with z | z
    · exact x.fp b z
    · by_cases q : b ∈ A.fp
      · exact .inl q
      · refine .inr ?_
        cases e : H b with
        | none => rfl
        | some o =>
          have := x.kp.keep b o e q
          rw [z] at this
          cases this
theorem Stp.same (x : Stp c w g H A H1 A1 s1) (h : Same H1 H2) : Stp c w g H A H2 A1 s1 :=
  ⟨x.ok.same h, x.kp.trans (Kp.same h), x.tk, x.tn, x.fp⟩
end

def spTI (c : Cs) : Sp := fun vs H Q _ => ∃ (p dx : Addr) (w : Nat) (g : Bits), vs = [.ref p, vn w, vb g] ∧ H p = some (.ins c.T dx []) ∧
  ∀ A H', A.tk = p → TalkAt c w g H' A ⟨[], [], 0, [], []⟩ → (∀ b ∈ A.fp, H b = none) → H A.tn = none → (∀ b o, H b = some o → b ≠ p → H' b = some o) → Q .non H'
def spTQ (c : Cs) : Sp := fun vs H Q _ => ∃ (A : TA) (s : St) (w : Nat) (g : Bits) (a : Addr) (x : List Nat), vs = [.ref A.tk, .ref a] ∧ TalkAt c w g H A s ∧ H a = some (.tup (x.map vn)) ∧ s.letters.length < 60 ∧
  ∀ H', Stp c w g H A H' A (queue s x) → Q .non H'
def spTP (c : Cs) : Sp := fun vs H Q _ => ∃ (A : TA) (s : St) (w : Nat) (g p : Bits) (t : Bool), vs = [.ref A.tk, .str (ws t), vb p] ∧ TalkAt c w g H A s ∧ (line s t).length ≤ 1000 ∧
  ∀ H', Stp c w g H A H' A (setLine s t (put (line s t) p)) → Q .non H'
def spTS (c : Cs) : Sp := fun vs H Q _ => ∃ (A : TA) (s : St) (w : Nat) (g : Bits), vs = [.ref A.tk] ∧ TalkAt c w g H A s ∧ Gen g ∧ w ≤ 7 ∧ s.known ≤ s.letters.length ∧ s.letters.length ≤ 1000 ∧ (∀ l ∈ s.letters, l.length ≤ 4 ∧ ∀ x ∈ l, x < 256) ∧ s.there.length ≤ 40 ∧
  ∀ H', Stp c w g H A H' A (send w g s) → Q (vn (top w s - s.known)) H'
def spTL (c : Cs) : Sp := fun vs H Q _ => ∃ (A : TA) (s : St) (w : Nat) (g : Bits) (t : Bool), vs = [.ref A.tk, .str (ws t)] ∧ TalkAt c w g H A s ∧
  ∀ p, H p = none → Q (.ref p) (upd H p (.lst ((line s t).map vb)))
def spTT (c : Cs) : Sp := fun vs H Q _ => ∃ (A : TA) (s : St) (w : Nat) (g : Bits), vs = [.ref A.tk] ∧ TalkAt c w g H A s ∧
  ∀ as p, Tups H as s.taken → H p = none → Q (.ref p) (upd H p (.lst (as.map V.ref)))
def spTK (c : Cs) : Sp := fun vs H Q _ => ∃ (A : TA) (s : St) (w : Nat) (g : Bits), vs = [.ref A.tk] ∧ TalkAt c w g H A s ∧ Q (vn s.known) H
structure TxT (K : PySem.W.Frag) (CT : Addr) : Prop where
  cl : Cls K CT
  nw : NoAttr K CT "window"
  ng : NoAttr K CT "generator"
  ns : NoAttr K CT "sender"
  nt : NoAttr K CT "taker"
  nl : NoAttr K CT "lines"

section
variable {P : Program} {w : World} {K : PySem.W.Frag} {mg : Str → Option Value} {base : Heap} {c : Cs}

theorem scTL : FnScope ["self", "way"] ["self", "way"] (defScope (sTM 9)) := ⟨rfl, rfl, rfl, by decide +kernel, rfl, by decide +kernel, by decide +kernel⟩
theorem ok_TL {f : Addr} {fd : FuncData} (F : Fun K "line" "Talk.line" (sTM 9) f fd) (T : TxT K c.T) (gLi : mg "list" = none) : FnOk P w K mg base CX0 1 f fd ["self", "way"] (spTL c) := by
  refine F.ok scTL (fun vs H Q E h => ?_) (fun cdv A outer s H vs Q E hr h => ?_)
  · obtain ⟨A, s, w, g, t, rfl, _⟩ := h
    rfl
  · obtain ⟨B, st, w, g, t, rfl, TT, k⟩ := h
    refine ⟨_, pss_one (ps_ret (pe_callTy call_list_of (by rfl) gLi (by decide +kernel) (pa_cons (pe_dget (hu_of hr) (pe_fld (pv 0) rfl) (pv 1) (fun _ _ => rfl)) pa_nil))), ?_⟩
    obtain ⟨dx, h1⟩ := TT.ob
    refine ⟨_, rfl, B.tk, c.T, dx, _, _, rfl, h1, T.cl, T.nl, tf_l, _, rfl, B.dl, _, rfl, lns_get t TT.dl, _, _, rfl, .inl (SqL.of (TT.line t)), fun p hp => k p hp⟩

theorem scTT : FnScope ["self"] ["self"] (defScope (sTM 10)) := ⟨rfl, rfl, rfl, by decide +kernel, rfl, by decide +kernel, by decide +kernel⟩
theorem ok_TT {f : Addr} {fd : FuncData} (F : Fun K "taken" "Talk.taken" (sTM 10) f fd) (T : TxT K c.T) (TK : TxK K c.K) (gLi : mg "list" = none) : FnOk P w K mg base CX0 1 f fd ["self"] (spTT c) := by
  refine F.ok scTT (fun vs H Q E h => ?_) (fun cdv A outer s H vs Q E hr h => ?_)
  · obtain ⟨A, s, w, g, rfl, _⟩ := h
    rfl
  · obtain ⟨B, st, w, g, rfl, TT, k⟩ := h
    refine ⟨_, pss_one (ps_ret (pe_callTy call_list_of (by rfl) gLi (by decide +kernel) (pa_cons (pe_fld (pe_fld (pv 0) rfl) rfl) pa_nil))), ?_⟩
    obtain ⟨dx, h1⟩ := TT.ob
    obtain ⟨as, ⟨dk, h2⟩, hl, ht⟩ := TT.take
    exact ⟨_, rfl, B.tk, c.T, dx, _, _, rfl, h1, T.cl, T.nt, tf_k, B.tn, c.K, dk, _, _, rfl, h2, TK.cl, TK.nl, kf_l, B.tl, _, rfl, .inl (SqL.of hl), fun p hp => k as p ht hp⟩

theorem scTK : FnScope ["self"] ["self"] (defScope (sTM 11)) := ⟨rfl, rfl, rfl, by decide +kernel, rfl, by decide +kernel, by decide +kernel⟩
theorem ok_TK {f : Addr} {fd : FuncData} (F : Fun K "known" "Talk.known" (sTM 11) f fd) (T : TxT K c.T) (TS : TxS K c.S) : FnOk P w K mg base CX0 1 f fd ["self"] (spTK c) := by
  refine F.ok scTK (fun vs H Q E h => ?_) (fun cdv A outer s H vs Q E hr h => ?_)
  · obtain ⟨A, s, w, g, rfl, _⟩ := h
    rfl
  · obtain ⟨B, st, w, g, rfl, TT, k⟩ := h
    refine ⟨_, pss_one (ps_ret (pe_fld (pe_fld (pv 0) rfl) rfl)), ?_⟩
    obtain ⟨dx, h1⟩ := TT.ob
    obtain ⟨as, ⟨ds, h2⟩, hl, ht⟩ := TT.send
    exact ⟨_, rfl, B.tk, c.T, dx, _, _, rfl, h1, T.cl, T.ns, tf_s, B.sn, c.S, ds, _, _, rfl, h2, TS.cl, TS.nd, sf_d, k⟩

theorem scTQ : FnScope ["self", "letter"] ["self", "letter"] (defScope (sTM 1)) := ⟨rfl, rfl, rfl, by decide +kernel, rfl, by decide +kernel, by decide +kernel⟩
theorem TA.in_sl (A : TA) : A.sl ∈ A.fp := by simp [TA.fp]
theorem TA.in_sn (A : TA) : A.sn ∈ A.fp := by simp [TA.fp]
theorem TA.in_tl (A : TA) : A.tl ∈ A.fp := by simp [TA.fp]
theorem TA.in_dl (A : TA) : A.dl ∈ A.fp := by simp [TA.fp]
theorem TA.in_lt (A : TA) : A.lt ∈ A.fp := by simp [TA.fp]
theorem TA.in_lb (A : TA) : A.lb ∈ A.fp := by simp [TA.fp]
/-- a list of the talk is changed -/
theorem TalkAt.not_ls {w : Nat} {g : Bits} {H : Hp} {B : TA} {st : St} (TT : TalkAt c w g H B st) {l : Addr} {xs : List V} (hl : H l = some (.lst xs)) : l ≠ B.tk ∧ l ≠ B.sn ∧ l ≠ B.tn ∧ l ≠ B.dl := by
  obtain ⟨dx, h1⟩ := TT.ob
  obtain ⟨as, ⟨ds, h2⟩, _⟩ := TT.send
  obtain ⟨as', ⟨ds', h3⟩, _⟩ := TT.take
  exact ⟨lst_ne_ins hl h1, lst_ne_ins hl h2, lst_ne_ins hl h3, lst_ne_dk hl TT.dl⟩
theorem ok_TQ {f : Addr} {fd : FuncData} (F : Fun K "queue" "Talk.queue" (sTM 1) f fd) (T : TxT K c.T) (mQ : Met P w K mg base CX0 1 c.S "queue" (spSQ c.S)) : FnOk P w K mg base CX0 2 f fd ["self", "letter"] (spTQ c) := by
  refine F.ok scTQ (fun vs H Q E h => ?_) (fun cdv A outer s H vs Q E hr h => ?_)
  · obtain ⟨A, s, w, g, a, x, rfl, _⟩ := h
    rfl
  · obtain ⟨B, st, w, g, a, x, rfl, TT, ha, hlen, k⟩ := h
    refine ⟨_, pss_one (ps_expr (pe_mt mQ hr pass0 (pe_fld (pv 0) rfl) (pa_cons (pv 1) pa_nil))), ?_⟩
    obtain ⟨dx, h1⟩ := TT.ob
    obtain ⟨as, S⟩ := TT.send
    obtain ⟨⟨ds, h2⟩, hl, ht⟩ := id S
    refine ⟨_, rfl, B.tk, c.T, dx, _, _, rfl, h1, T.cl, T.ns, tf_s, B.sn, ds, _, rfl, h2, sf_no (by decide +kernel), _, rfl, B.sn, B.sl, a, as, st.letters, st.known, w, g, x, rfl, S, ha, hlen, ?_⟩
    have kp := (Kp.refl B.fp H).put (a := B.sl) (o := .lst ((as ++ [a]).map V.ref)) B.in_sl (not_tup_lst hl)
    obtain ⟨n1, n2, n3, n4⟩ := TT.not_ls hl
    have ne := TT.ne
    obtain ⟨as', ⟨dk, h3⟩, hl', ht'⟩ := TT.take
    refine k _ ⟨⟨⟨dx, by rw [upd_ne n1.symm]; exact h1⟩, ⟨as ++ [a], ⟨ds, by rw [upd_ne n2.symm]; exact h2⟩, upd_same, (ht.mono kp.tups).snoc (kp.tups _ _ ha)⟩,
      ⟨as', ⟨dk, by rw [upd_ne n3.symm]; exact h3⟩, by rw [upd_ne ne.a1.symm]; exact hl', ht'.mono kp.tups⟩, by rw [upd_ne n4.symm]; exact TT.dl, by rw [upd_ne ne.a2.symm]; exact TT.lt, by rw [upd_ne ne.a3.symm]; exact TT.lb, TT.ndI, TT.ndL⟩, kp, rfl, rfl, fun b h => .inl h⟩

/-- a line is written over -/
theorem TalkAt.setL {w : Nat} {g : Bits} {H : Hp} {B : TA} {st : St} (TT : TalkAt c w g H B st) (t : Bool) (l : List Bits) :
    Stp c w g H B (upd H (sel t B.lt B.lb) (.lst (l.map vb))) B (setLine st t l) := by
  have hl := TT.line t
  have ins : sel t B.lt B.lb ∈ B.fp := by cases t <;> simp [sel, TA.fp]
  have kp := (Kp.refl B.fp H).put (a := sel t B.lt B.lb) (o := .lst (l.map vb)) ins (not_tup_lst hl)
  obtain ⟨n1, n2, n3, n4⟩ := TT.not_ls hl
  have ne := TT.ne
  obtain ⟨dx, h1⟩ := TT.ob
  obtain ⟨as, ⟨ds, h2⟩, hs, ht⟩ := TT.send
  obtain ⟨as', ⟨dk, h3⟩, hs', ht'⟩ := TT.take
  have m1 : B.sl ≠ sel t B.lt B.lb := by
    cases t
    · exact ne.a3
    · exact ne.a2
  have m2 : B.tl ≠ sel t B.lt B.lb := by
    cases t
    · exact ne.a5
    · exact ne.a4
  have go : TalkAt c w g (upd H (sel t B.lt B.lb) (.lst (l.map vb))) B (setLine st t l) := by
    cases t with
    | true => exact ⟨⟨dx, by rw [upd_ne n1.symm]; exact h1⟩, ⟨as, ⟨ds, by rw [upd_ne n2.symm]; exact h2⟩, by rw [upd_ne m1]; exact hs, ht.mono kp.tups⟩,
        ⟨as', ⟨dk, by rw [upd_ne n3.symm]; exact h3⟩, by rw [upd_ne m2]; exact hs', ht'.mono kp.tups⟩, by rw [upd_ne n4.symm]; exact TT.dl, upd_same, (upd_ne ne.a6.symm).trans TT.lb, TT.ndI, TT.ndL⟩
    | false => exact ⟨⟨dx, by rw [upd_ne n1.symm]; exact h1⟩, ⟨as, ⟨ds, by rw [upd_ne n2.symm]; exact h2⟩, by rw [upd_ne m1]; exact hs, ht.mono kp.tups⟩,
        ⟨as', ⟨dk, by rw [upd_ne n3.symm]; exact h3⟩, by rw [upd_ne m2]; exact hs', ht'.mono kp.tups⟩, by rw [upd_ne n4.symm]; exact TT.dl, (upd_ne ne.a6).trans TT.lt, upd_same, TT.ndI, TT.ndL⟩
  exact ⟨go, kp, rfl, rfl, fun b h => .inl h⟩
theorem setLine_self (s : St) (t : Bool) : setLine s t (line s t) = s := by cases t <;> rfl
theorem line_set (s : St) (t : Bool) (l : List Bits) : line (setLine s t l) t = l := by cases t <;> rfl
theorem set_set (s : St) (t : Bool) (l l' : List Bits) : setLine (setLine s t l) t l' = setLine s t l' := by cases t <;> rfl

theorem scTP : FnScope ["self", "way", "payload"] ["self", "way", "payload"] (defScope (sTM 2)) := ⟨rfl, rfl, rfl, by decide +kernel, rfl, by decide +kernel, by decide +kernel⟩
theorem ok_TP {f : Addr} {fd : FuncData} (F : Fun K "put" "Talk.put" (sTM 2) f fd) (T : TxT K c.T) (gL : mg "len" = none) (hM : ∃ t, mg "LINE_MOST" = some (.int 40 t)) : FnOk P w K mg base CX0 1 f fd ["self", "way", "payload"] (spTP c) := by
  refine F.ok scTP (fun vs H Q E h => ?_) (fun cdv A outer s H vs Q E hr h => ?_)
  · obtain ⟨A, s, w, g, p, t, rfl, _⟩ := h
    rfl
  · obtain ⟨B, st, w, g, p, t, rfl, TT, hlen, k⟩ := h
    obtain ⟨tm, hM⟩ := hM
    refine ⟨_, pss_one (ps_if (pt_cmpR op_lt (pe_callB call_len_seq (by rfl) gL boot_len (pa_cons (pe_dget (hu_of hr) (pe_fld (pv 0) rfl) (pv 1) (fun _ _ => rfl)) pa_nil)) (pe_glob (v := .int 40) rfl hM ⟨_, rfl⟩) (nomark _))
      (pss_one (ps_expr (pe_bm PySem.F.plainAttrs_list PySem.F.slot_list_append PySem.F.type_list_append mt_append (pe_dget (hu_of hr) (pe_fld (pv 0) rfl) (pv 1) (fun _ _ => rfl)) (pa_cons (pv 2) pa_nil)))) pss_nil), ?_⟩
    obtain ⟨dx, h1⟩ := TT.ob
    refine ⟨_, rfl, B.tk, c.T, dx, _, _, rfl, h1, T.cl, T.nl, tf_l, _, rfl, B.dl, _, rfl, lns_get t TT.dl, _, _, rfl, .inl (SqL.of (TT.line t)), _, _, rfl, rfl, _, rfl, ?_⟩
    rw [List.length_map]
    by_cases hc : (line st t).length < 40
    · rw [decide_eq_true (by omega)]
      refine iteT ?_
      refine ⟨_, rfl, B.tk, c.T, dx, _, _, rfl, h1, T.cl, T.nl, tf_l, _, rfl, B.dl, _, rfl, lns_get t TT.dl, .inl ⟨rfl, _, SqL.of (TT.line t)⟩, _, rfl, _, _, _, rfl, rfl, TT.line t, ?_, ?_⟩
      · rw [List.length_map]; exact line_lt (by omega)
      · have := TT.setL t (line st t ++ [p])
        rw [List.map_append] at this
        refine k _ ?_
        have e : put (line st t) p = line st t ++ [p] := by unfold put; rw [if_pos hc]
        rw [e]
        exact this
    · rw [decide_eq_false (by omega)]
      refine iteF ?_
      have e : put (line st t) p = line st t := by unfold put; rw [if_neg hc]
      rw [e, setLine_self] at k
      exact k H (Stp.refl TT)

end
end Tk
end

section
set_option Elab.async false
set_option maxRecDepth 100000
set_option maxHeartbeats 4000000
set_option linter.unusedVariables false
/-! The talk: made, sent. -/
namespace Tk
open PySem PySem.Spec PyProof.Rows L2
def But (p : Addr) (H H' : Hp) : Prop := ∀ b o, H b = some o → b ≠ p → H' b = some o
section
variable {p b x dx a : Addr} {H H1 H2 : Hp} {o : HO}
theorem But.refl : But p H H := fun _ _ e _ => e
theorem But.trans (h : But p H H1) (k : But p H1 H2) : But p H H2 := fun b o e hb => k b o (h b o e hb) hb
theorem But.same (h : Same H H1) : But p H H1 := fun b o e _ => h b o e
theorem But.put : But p H (upd H p o) := fun b u e hb => by rw [upd_ne hb]; exact e
theorem But.back (k : But p H H1) (hp : H1 p ≠ none) (h : H1 b = none) : H b = none := by
  cases e : H b with
  | none => rfl
  | some o =>
    by_cases c : b = p
    · rw [c] at h; exact absurd h hp
    · rw [k b o e c] at h; cases h
theorem made_same (hx : H x = none) (hd : H dx = none) (k : ∀ b u, (upd (upd H dx (.own x)) x o) b = some u → b ≠ x → H1 b = some u) : Same H H1 := fun b u e => k b u (by rw [upd_ne (ne_of_none e hx), upd_ne (ne_of_none e hd)]; exact e) (ne_of_none e hx)
theorem made_back (h : (upd (upd H dx (.own x)) x o) a = none) : H a = none := by
  have n1 : a ≠ x := fun z => by rw [z, upd_same] at h; cases h
  rw [upd_ne n1] at h
  have n2 : a ≠ dx := fun z => by rw [z, upd_same] at h; cases h
  rwa [upd_ne n2] at h
end
theorem merge_lns (lt lb : Addr) : mergeK [] (lns lt lb) = lns lt lb := by
  show putK (putK [] (Sum.inr ("there" : Str) : Key) (V.ref lt)) (Sum.inr ("back" : Str) : Key) (V.ref lb) = _
  have e1 : putK [] (Sum.inr ("there" : Str) : Key) (V.ref lt) = [((Sum.inr ("there" : Str) : Key), V.ref lt)] := rfl
  rw [e1]
  unfold putK
  rw [if_neg]
  · rfl
  · intro z
    have : (decide ((Sum.inr ("there" : Str) : Key) = Sum.inr ("back" : Str)) || false) = true := z
    rw [decide_eq_false tb_ne] at this
    cases this

section
variable {P : Program} {w : World} {K : PySem.W.Frag} {mg : Str → Option Value} {base : Heap} {c : Cs}
theorem scTI : FnScope ["self", "window", "generator"] ["self", "window", "generator"] (defScope (sTM 0)) := ⟨rfl, rfl, rfl, by decide +kernel, rfl, by decide +kernel, by decide +kernel⟩
theorem ok_TI {f : Addr} {fd : FuncData} (F : Fun K "__init__" "Talk.__init__" (sTM 0) f fd) (T : TxT K c.T) (mS : Mak P w K mg base CX0 1 "Sender" c.S (spSI c.S)) (mK : Mak P w K mg base CX0 1 "Taker" c.K (spKI c.K)) :
    FnOk P w K mg base CX0 3 f fd ["self", "window", "generator"] (spTI c) := by
  refine F.ok scTI (fun vs H Q E h => ?_) (fun cdv A outer s H vs Q E hr h => ?_)
  · obtain ⟨p, dx, w, g, rfl, _⟩ := h
    rfl
  · obtain ⟨p, dx, w, g, rfl, hp, k⟩ := h
    refine ⟨_, pss_cons (ps_fld (pv 0) (pv 1) rfl) (pss_cons (ps_fld (pv 0) (pv 2) rfl) (pss_cons (ps_fld (pv 0) (pe_mk mS hr pass0 (pa_cons (pv 1) (pa_cons (pv 2) pa_nil))) rfl)
      (pss_cons (ps_fld (pv 0) (pe_mk mK hr pass0 (pa_cons (pv 1) (pa_cons (pv 2) pa_nil))) rfl)
      (pss_one (ps_fld (pv 0) (pe_disp (pps_cons pe_str (pe_lst pa_nil) (pps_cons pe_str (pe_lst pa_nil) pps_nil)) (by rfl) (by rfl) (fun z => by cases z) (by decide)) rfl))))), ?_⟩
    refine ⟨_, rfl, _, rfl, p, c.T, dx, _, rfl, hp, T.cl, T.nw, (by show 0 < 1000; decide), ?_⟩
    refine ⟨_, rfl, _, rfl, p, c.T, dx, _, rfl, upd_same, T.cl, T.ng, (by show 1 < 1000; decide), ?_⟩
    rw [putF_new (fs := putF "window" (vn w) []) (vb g) (by show ¬ _ ∈ [("window" : Str)]; decide +kernel), upd_upd]
    generalize hHb : upd H p (.ins c.T dx (putF "window" (vn w) [] ++ [(("generator" : Str), vb g)])) = Hb
    have bHb : But p H Hb := by rw [← hHb]; exact But.put
    have pb : Hb p = some (.ins c.T dx [("window", vn w), ("generator", vb g)]) := by rw [← hHb]; exact upd_same
    refine ⟨_, rfl, _, rfl, fun x dx1 hx hdx hne => ⟨x, dx1, w, g, rfl, upd_same, fun sl H1 S hsl keep => ⟨rfl, ?_⟩⟩⟩
    have s1 := made_same hx hdx keep
    have nsl := made_back hsl
    have hp1 := s1 _ _ pb
    refine ⟨_, rfl, p, c.T, dx, _, rfl, hp1, T.cl, T.ns, (by show 2 < 1000; decide), ?_⟩
    rw [putF_new (.ref x) (by show ¬ _ ∈ [("window" : Str), "generator"]; decide +kernel)]
    generalize hHc : upd H1 p (.ins c.T dx ([(("window" : Str), vn w), (("generator" : Str), vb g)] ++ [(("sender" : Str), V.ref x)])) = Hc
    have bHc : But p H1 Hc := by rw [← hHc]; exact But.put
    have pc : Hc p = some (.ins c.T dx [("window", vn w), ("generator", vb g), ("sender", .ref x)]) := by rw [← hHc]; exact upd_same
    refine ⟨_, rfl, _, rfl, fun y dy1 hy hdy hney => ⟨y, dy1, w, g, rfl, upd_same, fun tl H2 S2 htl keep2 => ⟨rfl, ?_⟩⟩⟩
    have s2 := made_same hy hdy keep2
    have ntl := made_back htl
    have hp2 := s2 _ _ pc
    refine ⟨_, rfl, p, c.T, dx, _, rfl, hp2, T.cl, T.nt, (by show 3 < 1000; decide), ?_⟩
    rw [putF_new (.ref y) (by show ¬ _ ∈ [("window" : Str), "generator", "sender"]; decide +kernel)]
    generalize hHd : upd H2 p (.ins c.T dx ([(("window" : Str), vn w), (("generator" : Str), vb g), (("sender" : Str), V.ref x)] ++ [(("taker" : Str), V.ref y)])) = Hd
    have bHd : But p H2 Hd := by rw [← hHd]; exact But.put
    have pd : Hd p = some (.ins c.T dx [("window", vn w), ("generator", vb g), ("sender", .ref x), ("taker", .ref y)]) := by rw [← hHd]; exact upd_same
    refine fun dl hdl => ⟨Nat.zero_le _, fun lt hlt => ⟨Nat.zero_le _, fun lb hlb => ?_⟩⟩
    have s3 : Same Hd (upd Hd dl (.dK [])) := Same.new (Same.refl Hd) hdl
    have s4 := Same.new s3 hlt (o := .lst [])
    have s5 := Same.new s4 hlb (o := .lst [])
    have ndt : lt ≠ dl := fun z => by rw [z, upd_same] at hlt; cases hlt
    have ndb : lb ≠ dl := fun z => by
      rw [z, upd_ne ndt.symm, upd_same] at hlb; cases hlb
    have ntb : lb ≠ lt := fun z => by rw [z, upd_same] at hlb; cases hlb
    refine ⟨by rw [upd_ne ndb.symm, upd_ne ndt.symm]; exact upd_same, lns lt lb, rfl, (by show 2 ≤ 15; decide), ?_⟩
    rw [merge_lns]
    generalize hHf : upd (upd (upd (upd Hd dl (.dK [])) lt (.lst [])) lb (.lst [])) dl (.dK (lns lt lb)) = Hf
    have s6 : Same Hd Hf := fun b o e => by
      rw [← hHf, upd_ne (ne_of_none e hdl)]
      exact s5 b o e
    have npdl := ne_of_none pd hdl
    refine ⟨_, rfl, p, c.T, dx, _, rfl, s6 _ _ pd, T.cl, T.nl, (by show 4 < 1000; decide), ?_⟩
    rw [putF_new (.ref dl) (by show ¬ _ ∈ [("window" : Str), "generator", "sender", "taker"]; decide +kernel)]
    generalize hHg : upd Hf p (.ins c.T dx ([(("window" : Str), vn w), (("generator" : Str), vb g), (("sender" : Str), V.ref x), (("taker" : Str), V.ref y)] ++ [(("lines" : Str), V.ref dl)])) = Hg
    have bHg : But p Hf Hg := by rw [← hHg]; exact But.put
    -- where the objects stand
    have b1 : But p Hb Hg := (But.same s1).trans (bHc.trans ((But.same s2).trans (bHd.trans ((But.same s6).trans bHg))))
    have b2 : But p H1 Hg := bHc.trans ((But.same s2).trans (bHd.trans ((But.same s6).trans bHg)))
    have b3 : But p H2 Hg := bHd.trans ((But.same s6).trans bHg)
    have nz : ∀ {G : Hp} {u : HO}, G p = some u → G p ≠ none := fun e z => by rw [z] at e; cases e
    have f0 : ∀ b, Hb b = none → H b = none := fun b h => bHb.back (nz pb) h
    have f1 : ∀ b, H1 b = none → Hb b = none := fun b h => (But.same s1).back (nz hp1) h
    have f2 : ∀ b, Hc b = none → H1 b = none := fun b h => bHc.back (nz pc) h
    have f3 : ∀ b, H2 b = none → Hc b = none := fun b h => (But.same s2).back (nz hp2) h
    have f4 : ∀ b, Hd b = none → H2 b = none := fun b h => bHd.back (nz pd) h
    have hlt0 : Hd lt = none := by rw [upd_ne ndt] at hlt; exact hlt
    have hlb0 : Hd lb = none := by rw [upd_ne ntb, upd_ne ndb] at hlb; exact hlb
    obtain ⟨⟨ds, hs⟩, hsl', _⟩ := S
    obtain ⟨⟨dk, hk⟩, htl', _⟩ := S2
    have np : ∀ {b : Addr} {G : Hp} {u : HO}, G p = some u → G b = none → b ≠ p := fun e h z => by rw [z, e] at h; cases h
    have xp : x ≠ p := np pb hx
    have slp : sl ≠ p := np pb nsl
    have yp : y ≠ p := np pc hy
    have tlp : tl ≠ p := np pc ntl
    have ltp : lt ≠ p := np pd hlt0
    have lbp : lb ≠ p := np pd hlb0
    have hsd : Hd sl = some (.lst []) := (bHc.trans ((But.same s2).trans bHd)) _ _ hsl' slp
    have hsc : Hc sl = some (.lst []) := bHc _ _ hsl' slp
    have hxc := bHc _ _ hs xp
    have htd : Hd tl = some (.lst []) := bHd _ _ htl' tlp
    refine k ⟨p, x, y, dl, sl, tl, lt, lb⟩ Hg rfl ⟨⟨dx, by rw [← hHg]; exact upd_same⟩, ⟨[], ⟨ds, b2 _ _ hs xp⟩, b2 _ _ hsl' slp, Tups.nil _⟩, ⟨[], ⟨dk, b3 _ _ hk yp⟩, b3 _ _ htl' tlp, Tups.nil _⟩, ?_, ?_, ?_, ?_, ?_⟩ ?_ (f0 _ (f1 _ (f2 _ hy))) ?_
    · rw [← hHg, upd_ne npdl.symm, ← hHf]; exact upd_same
    · rw [← hHg, upd_ne ltp, ← hHf, upd_ne ndt, upd_ne ntb.symm]; exact upd_same
    · rw [← hHg, upd_ne lbp, ← hHf, upd_ne ndb]; exact upd_same
    · have xy := ne_of_none hxc hy
      simp only [List.nodup_cons, List.mem_cons, List.not_mem_nil, or_false, not_or, List.nodup_nil, and_true, not_false_eq_true]
      exact ⟨⟨xp.symm, yp.symm⟩, xy⟩
    · have e1 := ne_of_none hsc ntl
      have e2 := ne_of_none hsd hlt0
      have e3 := ne_of_none hsd hlb0
      have e4 := ne_of_none htd hlt0
      have e5 := ne_of_none htd hlb0
      simp only [List.nodup_cons, List.mem_cons, List.not_mem_nil, or_false, not_or, List.nodup_nil, and_true, not_false_eq_true]
      exact ⟨⟨e1, e2, e3⟩, ⟨e4, e5⟩, ntb.symm⟩
    · intro b hb
      simp only [TA.fp, List.mem_cons, List.not_mem_nil, or_false] at hb
      rcases hb with rfl | rfl | rfl | rfl | rfl | rfl
      · exact f0 _ hx
      · exact f0 _ (f1 _ (f2 _ (f3 _ (f4 _ hdl))))
      · exact f0 _ nsl
      · exact f0 _ (f1 _ (f2 _ ntl))
      · exact f0 _ (f1 _ (f2 _ (f3 _ (f4 _ hlt0))))
      · exact f0 _ (f1 _ (f2 _ (f3 _ (f4 _ hlb0))))
    · exact fun b o e hb => b1 b o (bHb b o e hb) hb

theorem scTS : FnScope ["self", "payloads", "payload"] ["self"] (defScope (sTM 3)) := ⟨rfl, rfl, rfl, by decide +kernel, rfl, by decide +kernel, by decide +kernel⟩
theorem TalkAt.alloc {w : Nat} {g : Bits} {H : Hp} {B : TA} {st : St} (TT : TalkAt c w g H B st) : ∀ b ∈ B.fp, ∃ o, H b = some o := fun b hb => by
  obtain ⟨as, ⟨ds, h2⟩, hs, ht⟩ := TT.send
  obtain ⟨as', ⟨dk, h3⟩, hs', ht'⟩ := TT.take
  simp only [TA.fp, List.mem_cons, List.not_mem_nil, or_false] at hb
  rcases hb with rfl | rfl | rfl | rfl | rfl | rfl
  · exact ⟨_, h2⟩
  · exact ⟨_, TT.dl⟩
  · exact ⟨_, hs⟩
  · exact ⟨_, hs'⟩
  · exact ⟨_, TT.lt⟩
  · exact ⟨_, TT.lb⟩
theorem TalkAt.free {w : Nat} {g : Bits} {H : Hp} {B : TA} {st : St} (TT : TalkAt c w g H B st) {p : Addr} (h : H p = none) : p ∉ B.fp := fun z => by
  obtain ⟨o, e⟩ := TT.alloc p z
  rw [h] at e; cases e
theorem puts_le : ∀ (ps l : List Bits), l.length ≤ 40 → (ps.foldl put l).length ≤ 40
  | [], l, h => h
  | p :: ps, l, h => puts_le ps (put l p) (by
    unfold put
    split
    · rw [List.length_append]; simp only [List.length_cons, List.length_nil]; omega
    · exact h)
theorem ok_TS {f : Addr} {fd : FuncData} (F : Fun K "send" "Talk.send" (sTM 3) f fd) (T : TxT K c.T) (mPs : Met P w K mg base CX0 6 c.S "payloads" (spSPs c.S)) (mP : Met P w K mg base CX0 1 c.T "put" (spTP c)) (gL : mg "len" = none) :
    FnOk P w K mg base CX0 7 f fd ["self"] (spTS c) := by
  refine F.ok scTS (fun vs H Q E h => ?_) (fun cdv A outer s H vs Q E hr h => ?_)
  · obtain ⟨A, s, w, g, rfl, _⟩ := h
    rfl
  · obtain ⟨B, st, w, g, rfl, TT, hg, hw, hk, hlen, hby, h40, k⟩ := h
    refine ⟨_, pss_cons (ps_set (i := 1) scTS.nd rfl (Or.inl rfl) (pe_mt0 mPs hr pass0 (pe_fld (pv 0) rfl)))
      (pss_cons (ps_for PassesOwn.never rfl (pi_list (pv 1)) (pg_name (i := 2) scTS.nd rfl (Or.inl rfl)) (pss_one (ps_expr (pe_mt mP hr pass0 (pv 0) (pa_cons pe_str (pa_cons (pv 2) pa_nil))))))
      (pss_one (ps_ret (pe_callB call_len_seq (by rfl) gL boot_len (pa_cons (pv 1) pa_nil))))), ?_⟩
    obtain ⟨dx, h1⟩ := TT.ob
    obtain ⟨as, S⟩ := TT.send
    obtain ⟨⟨ds, h2⟩, hl, ht⟩ := id S
    refine ⟨_, rfl, B.tk, c.T, dx, _, _, rfl, h1, T.cl, T.ns, tf_s, B.sn, ds, _, rfl, h2, sf_no (by decide +kernel), B.sn, B.sl, as, st, w, g, rfl, S, hg, hw, hk, hlen, hby, fun p H1 s1 np hp => ?_⟩
    have TT1 := TT.same s1
    have pf := TT.free np
    refine ⟨_, rfl, p, rfl, ⟨_, SqL.of hp⟩, ?_⟩
    refine for_list (xs := (window w g st).map vb) (fun i σ H' => Stp c w g H1 B H' B { st with there := ((window w g st).take i).foldl put st.there } ∧ H' p = some (.lst ((window w g st).map vb)) ∧ ∃ v, σ = [some (.ref B.tk), some (.ref p), v]) ⟨Stp.refl TT1, hp, none, rfl⟩ (fun i σ H' _ ⟨_, h, _⟩ => SqL.of h) ?_ ?_
    · rintro i x σ H' hi ⟨X, hp', v, rfl⟩
      obtain ⟨q, hq, rfl⟩ : ∃ q, (window w g st)[i]? = some q ∧ x = vb q := by
        rw [List.getElem?_map] at hi
        cases e : (window w g st)[i]? with
        | none => rw [e] at hi; cases hi
        | some q => rw [e] at hi; exact ⟨q, rfl, (Option.some.inj hi).symm⟩
      obtain ⟨dx', h1'⟩ := X.ok.ob
      refine ⟨_, rfl, B.tk, dx', _, rfl, h1', tf_no (by decide +kernel), _, rfl, B, _, w, g, q, true, rfl, X.ok, ?_, fun H2 X2 => ?_⟩
      · have := puts_le ((window w g st).take i) st.there h40
        show (((window w g st).take i).foldl put st.there).length ≤ 1000
        omega
      · refine ⟨?_, X2.kp.keep _ _ hp' pf, _, rfl⟩
        rw [take_next hq, List.foldl_append]
        exact X.trans X2
    · rintro σ H' ⟨X, hp', v, rfl⟩
      refine ⟨_, rfl, p, _, rfl, .inl (SqL.of hp'), ?_⟩
      have e : (window w g st).take ((window w g st).map vb).length = window w g st := List.take_of_length_le (by rw [List.length_map]; exact Nat.le_refl _)
      rw [e] at X
      have el : (((window w g st).map vb).length : Int) = ((top w st - st.known : Nat) : Int) := by
        unfold window
        rw [List.length_map, List.length_map, List.length_range']
      rw [el]
      exact k H' (((Stp.refl TT).same s1).trans X)
end
end Tk
end

section
set_option Elab.async false
set_option maxRecDepth 100000
set_option maxHeartbeats 4000000
set_option linter.unusedVariables false
/-! The talk's methods that may raise Refused. -/
namespace Tk
open PySem PySem.Spec PyProof.Rows L2
/-- Refused(m), raised at H -/
def Rai (CR : Addr) (E : XK) (H : Hp) (m : Str) : Prop := ∀ d, H d = none → E (.ref CR) (some d) (upd H d (.xd [("what", .str m)]))
def spTC (c : Cs) (CR : Addr) : Sp := fun vs H Q E => ∃ (A : TA) (s : St) (w : Nat) (g : Bits) (t : Bool) (i : Nat), vs = [.ref A.tk, .str (ws t), vn i] ∧ TalkAt c w g H A s ∧
  (i < (line s t).length → Q .non H) ∧ (¬ i < (line s t).length → Rai CR E H "nothing there")
def spTO (c : Cs) (CR : Addr) : Sp := fun vs H Q E => ∃ (A : TA) (s : St) (w : Nat) (g : Bits) (t : Bool) (i : Nat), vs = [.ref A.tk, .str (ws t), vn i] ∧ TalkAt c w g H A s ∧ (line s t).length ≤ 1000 ∧
  (i < (line s t).length → ∀ H', Stp c w g H A H' A (lose s t i) → Q .non H') ∧ (¬ i < (line s t).length → Rai CR E H "nothing there")
def spTR (c : Cs) (CR : Addr) : Sp := fun vs H Q E => ∃ (A : TA) (s : St) (w : Nat) (g : Bits) (t : Bool) (i : Nat), vs = [.ref A.tk, .str (ws t), vn i] ∧ TalkAt c w g H A s ∧ (line s t).length ≤ 1000 ∧
  (i < (line s t).length → ∀ H' A', Stp c w g H A H' A' (rept s t i) → Q .non H') ∧ (¬ i < (line s t).length → Rai CR E H "nothing there")
def spTD (c : Cs) (CR : Addr) : Sp := fun vs H Q E => ∃ (A : TA) (s : St) (w : Nat) (g : Bits) (t : Bool) (i f : Nat) (p : Bits), vs = [.ref A.tk, .str (ws t), vn i, vn f, vb p] ∧ TalkAt c w g H A s ∧ (line s t).length ≤ 1000 ∧ (∀ b ∈ line s t, b.length ≤ 500) ∧ p.length ≤ 500 ∧
  (∀ b, (line s t)[i]? = some b → ¬ (p = [] ∨ b.length < f + p.length) → ∀ H', Stp c w g H A H' A (spoil s t i f p) → Q .non H') ∧
  (∀ b, (line s t)[i]? = some b → (p = [] ∨ b.length < f + p.length) → Rai CR E H "pattern does not fit") ∧ (¬ i < (line s t).length → Rai CR E H "nothing there")
def spTV (c : Cs) (CR : Addr) : Sp := fun vs H Q E => ∃ (A : TA) (s : St) (w : Nat) (g : Bits) (t : Bool), vs = [.ref A.tk, .str (ws t)] ∧ TalkAt c w g H A s ∧ Gen g ∧ w ≤ 7 ∧ s.known ≤ s.letters.length ∧ s.letters.length ≤ 1000 ∧ s.taken.length ≤ 900 ∧ (line s t).length ≤ 1000 ∧ s.back.length ≤ 1000 ∧ (∀ b ∈ line s t, b.length ≤ 800) ∧
  (line s t ≠ [] → ∀ H', Stp c w g H A H' A (if t = true then delT w g s else delB w g s) → Q .non H') ∧ (line s t = [] → Rai CR E H "nothing there")

section
variable {P : Program} {w : World} {K : PySem.W.Frag} {mg : Str → Option Value} {base : Heap} {c : Cs} {CR fR : Addr}
theorem erase_map {α β : Type} (f : α → β) : ∀ (xs : List α) (j : Nat), (xs.eraseIdx j).map f = (xs.map f).eraseIdx j
  | [], j => by simp
  | x :: xs, 0 => by simp
  | x :: xs, j + 1 => by simp [erase_map f xs j]
theorem seq_at {i n : Nat} (h : i < n) : seqIndex? (i : Int) n = some i := by
  unfold seqIndex?
  have h1 : ¬ ((i : Int) < 0) := by omega
  simp only [h1, if_false]
  have h2 : (0 : Int) ≤ (i : Int) := by omega
  have h3 : (i : Int) < (n : Int) := by omega
  simp [h2, h3]
theorem ixN_at {i n : Nat} (h : i < n) : ixN n (i : Int) = some i := by
  unfold ixN
  rw [if_pos (by omega), if_pos (by omega)]
  rfl
theorem scTC : FnScope ["self", "way", "place"] ["self", "way", "place"] (defScope (sTM 4)) := ⟨rfl, rfl, rfl, by decide +kernel, rfl, by decide +kernel, by decide +kernel⟩
theorem ok_TC {f : Addr} {fd : FuncData} (F : Fun K "check_place" "Talk.check_place" (sTM 4) f fd) (T : TxT K c.T) (TR : PySem.RefX.RefTxt P K mg CR fR) (gL : mg "len" = none) : FnOk P w K mg base (L2.CX P w) 1 f fd ["self", "way", "place"] (spTC c CR) := by
  refine F.okX scTC (fun vs H Q E h => ?_) (fun cdv A outer s H vs Q E hr h => ?_)
  · obtain ⟨A, s, w, g, t, i, rfl, _⟩ := h
    rfl
  · obtain ⟨B, st, w, g, t, i, rfl, TT, kq, ke⟩ := h
    refine ⟨_, pss_one (ps_if (pt_cmpR op_ge (pv 2) (pe_callB call_len_seq (by rfl) gL boot_len (pa_cons (pe_dget (hu_of hr) (pe_fld (pv 0) rfl) (pv 1) (fun _ _ => rfl)) pa_nil)) (nomark _))
      (pss_one (ps_raiseRef rfl TR hr (takes_of rfl rfl rfl rfl) (by exact (pa_cons pe_str pa_nil)))) pss_nil), ?_⟩
    obtain ⟨dx, h1⟩ := TT.ob
    refine ⟨_, rfl, _, rfl, B.tk, c.T, dx, _, _, rfl, h1, T.cl, T.nl, tf_l, _, rfl, B.dl, _, rfl, lns_get t TT.dl, _, _, rfl, .inl (SqL.of (TT.line t)), _, _, rfl, rfl, _, rfl, ?_⟩
    rw [List.length_map]
    by_cases hc : i < (line st t).length
    · rw [decide_eq_false (by omega)]
      exact iteF (kq hc)
    · rw [decide_eq_true (by omega)]
      exact iteT ⟨_, rfl, fun d hd => ke hc d hd⟩

theorem scTO : FnScope ["self", "way", "place"] ["self", "way", "place"] (defScope (sTM 5)) := ⟨rfl, rfl, rfl, by decide +kernel, rfl, by decide +kernel, by decide +kernel⟩
theorem ok_TO {f : Addr} {fd : FuncData} (F : Fun K "lose" "Talk.lose" (sTM 5) f fd) (T : TxT K c.T) (mC : Met P w K mg base (L2.CX P w) 1 c.T "check_place" (spTC c CR)) : FnOk P w K mg base (L2.CX P w) 2 f fd ["self", "way", "place"] (spTO c CR) := by
  refine F.okX scTO (fun vs H Q E h => ?_) (fun cdv A outer s H vs Q E hr h => ?_)
  · obtain ⟨A, s, w, g, t, i, rfl, _⟩ := h
    rfl
  · obtain ⟨B, st, w, g, t, i, rfl, TT, hlen, kq, ke⟩ := h
    refine ⟨_, pss_cons (ps_expr (pe_mt mC hr (passes_call (takes_of rfl rfl rfl rfl) (fun _ _ _ _ z => z)) (pv 0) (pa_cons (pv 1) (pa_cons (pv 2) pa_nil))))
      (pss_one (ps_delL (pe_dget (hu_of hr) (pe_fld (pv 0) rfl) (pv 1) (fun _ _ => rfl)) (pv 2))), ?_⟩
    obtain ⟨dx, h1⟩ := TT.ob
    refine ⟨_, rfl, B.tk, dx, _, rfl, h1, tf_no (by decide +kernel), _, rfl, _, rfl, B, st, w, g, t, i, rfl, TT, fun hi => ?_, ke⟩
    have hl := TT.line t
    refine ⟨_, rfl, B.tk, c.T, dx, _, _, rfl, h1, T.cl, T.nl, tf_l, _, rfl, B.dl, _, rfl, lns_get t TT.dl, _, rfl, _, _, _, i, rfl, rfl, hl, by omega, by omega, by rw [List.length_map]; exact seq_at hi, ?_⟩
    have X := TT.setL t ((line st t).eraseIdx i)
    rw [erase_map] at X
    exact kq hi _ X

theorem scTR : FnScope ["self", "way", "place", "line"] ["self", "way", "place"] (defScope (sTM 6)) := ⟨rfl, rfl, rfl, by decide +kernel, rfl, by decide +kernel, by decide +kernel⟩
theorem cutV_to (xs : List V) (j : Nat) : cutV xs none (some (j : Int)) = xs.take j := by
  unfold cutV
  rw [HT.sIx_nat, HT.sIx_none, List.drop_zero, Nat.sub_zero]
  by_cases d : j ≤ xs.length
  · rw [Nat.min_eq_left d]
  · rw [Nat.min_eq_right (by omega), List.take_of_length_le (Nat.le_refl _), List.take_of_length_le (by omega)]
theorem cutV_from (xs : List V) (i : Nat) : cutV xs (some (i : Int)) none = xs.drop i := by
  unfold cutV
  rw [HT.sIx_nat, HT.sIx_none]
  by_cases c : i ≤ xs.length
  · rw [Nat.min_eq_left c, List.take_of_length_le (by rw [List.length_drop]; omega)]
  · rw [Nat.min_eq_right (by omega), List.drop_eq_nil_of_le (Nat.le_refl _), List.drop_eq_nil_of_le (by omega), List.take_nil]
/-- a line's list is another one -/
def TA.newL (B : TA) (t : Bool) (l : Addr) : TA := { B with lt := if t = true then l else B.lt, lb := if t = true then B.lb else l }
theorem TalkAt.newL {w : Nat} {g : Bits} {H : Hp} {B : TA} {st : St} (TT : TalkAt c w g H B st) (t : Bool) {l : Addr} {bl : List Bits} (hl : H l = some (.lst (bl.map vb))) (hn : l ∉ B.fp) :
    TalkAt c w g (upd H B.dl (.dK (lns (if t = true then l else B.lt) (if t = true then B.lb else l)))) (B.newL t l) (setLine st t bl) := by
  have kp := (Kp.refl B.fp H).put (a := B.dl) (o := .dK (lns (if t = true then l else B.lt) (if t = true then B.lb else l))) B.in_dl (not_tup_dk TT.dl)
  have ne := TT.ne
  obtain ⟨dx, h1⟩ := TT.ob
  obtain ⟨as, ⟨ds, h2⟩, hs, ht⟩ := TT.send
  obtain ⟨as', ⟨dk, h3⟩, hs', ht'⟩ := TT.take
  have n1 := ins_ne_dk h1 TT.dl
  have n2 := ins_ne_dk h2 TT.dl
  have n3 := ins_ne_dk h3 TT.dl
  have n4 := lst_ne_dk hs TT.dl
  have n5 := lst_ne_dk hs' TT.dl
  have n6 := lst_ne_dk TT.lt TT.dl
  have n7 := lst_ne_dk TT.lb TT.dl
  have n8 := lst_ne_dk hl TT.dl
  have m1 : l ≠ B.sl := fun z => hn (by rw [z]; exact B.in_sl)
  have m2 : l ≠ B.tl := fun z => hn (by rw [z]; exact B.in_tl)
  have m3 : l ≠ B.lt := fun z => hn (by rw [z]; exact B.in_lt)
  have m4 : l ≠ B.lb := fun z => hn (by rw [z]; exact B.in_lb)
  have e1 := ne.a1
  have e2 := ne.a2
  have e3 := ne.a3
  have e4 := ne.a4
  have e5 := ne.a5
  have e6 := ne.a6
  have nl : ∀ a b c d : Addr, a ≠ b → a ≠ c → a ≠ d → b ≠ c → b ≠ d → c ≠ d → [a, b, c, d].Nodup := fun a b c d h1 h2 h3 h4 h5 h6 => by
    simp only [List.nodup_cons, List.mem_cons, List.not_mem_nil, or_false, not_or, List.nodup_nil, and_true, not_false_eq_true]
    exact ⟨⟨h1, h2, h3⟩, ⟨h4, h5⟩, h6⟩
  cases t with
  | true => exact ⟨⟨dx, (upd_ne n1).trans h1⟩, ⟨as, ⟨ds, (upd_ne n2).trans h2⟩, (upd_ne n4).trans hs, ht.mono kp.tups⟩, ⟨as', ⟨dk, (upd_ne n3).trans h3⟩, (upd_ne n5).trans hs', ht'.mono kp.tups⟩,
      upd_same, (upd_ne n8).trans hl, (upd_ne n7).trans TT.lb, TT.ndI, nl _ _ _ _ e1 m1.symm e3 m2.symm e5 m4⟩
  | false => exact ⟨⟨dx, (upd_ne n1).trans h1⟩, ⟨as, ⟨ds, (upd_ne n2).trans h2⟩, (upd_ne n4).trans hs, ht.mono kp.tups⟩, ⟨as', ⟨dk, (upd_ne n3).trans h3⟩, (upd_ne n5).trans hs', ht'.mono kp.tups⟩,
      upd_same, (upd_ne n6).trans TT.lt, (upd_ne n8).trans hl, TT.ndI, nl _ _ _ _ e1 e2 m1.symm e4 m2.symm m3.symm⟩
theorem ok_TR {f : Addr} {fd : FuncData} (F : Fun K "repeat" "Talk.repeat" (sTM 6) f fd) (T : TxT K c.T) (mC : Met P w K mg base (L2.CX P w) 1 c.T "check_place" (spTC c CR)) (gL : mg "len" = none) (hM : ∃ t, mg "LINE_MOST" = some (.int 40 t)) :
    FnOk P w K mg base (L2.CX P w) 2 f fd ["self", "way", "place"] (spTR c CR) := by
  refine F.okX scTR (fun vs H Q E h => ?_) (fun cdv A outer s H vs Q E hr h => ?_)
  · obtain ⟨A, s, w, g, t, i, rfl, _⟩ := h
    rfl
  · obtain ⟨B, st, w, g, t, i, rfl, TT, hlen, kq, ke⟩ := h
    obtain ⟨tm, hM⟩ := hM
    refine ⟨_, pss_cons (ps_expr (pe_mt mC hr (passes_call (takes_of rfl rfl rfl rfl) (fun _ _ _ _ z => z)) (pv 0) (pa_cons (pv 1) (pa_cons (pv 2) pa_nil))))
      (pss_cons (ps_set (i := 3) scTR.nd rfl (Or.inl rfl) (pe_dget (hu_of hr) (pe_fld (pv 0) rfl) (pv 1) (fun _ _ => rfl)))
      (pss_one (ps_if (pt_cmpR op_lt (pe_callB call_len_seq (by rfl) gL boot_len (pa_cons (pv 3) pa_nil)) (pe_glob (v := .int 40) rfl hM ⟨_, rfl⟩) (nomark _))
        (pss_one (ps_dput (hu_of hr) (pe_fld (pv 0) rfl) (pv 1) (pe_op op_cat (pe_slice sl_list (pv 3) po_none (po_some (pe_op op_add (pv 2) pe_int))) (pe_slice sl_list (pv 3) (po_some (pv 2)) po_none)) rfl)) pss_nil))), ?_⟩
    obtain ⟨dx, h1⟩ := TT.ob
    refine ⟨_, rfl, B.tk, dx, _, rfl, h1, tf_no (by decide +kernel), _, rfl, _, rfl, B, st, w, g, t, i, rfl, TT, fun hi => ?_, ke⟩
    have hl := TT.line t
    refine ⟨_, rfl, B.tk, c.T, dx, _, _, rfl, h1, T.cl, T.nl, tf_l, _, rfl, B.dl, _, rfl, lns_get t TT.dl, ?_⟩
    refine ⟨_, rfl, _, _, rfl, .inl (SqL.of hl), _, _, rfl, rfl, _, rfl, ?_⟩
    rw [List.length_map]
    by_cases hc : (line st t).length < 40
    · rw [decide_eq_true (by omega)]
      refine iteT ?_
      refine ⟨_, rfl, _, rfl, _, _, rfl, rfl, (i : Int) + 1, rfl, _, _, rfl, SqL.of hl, fun q1 hq1 => ?_⟩
      have s1 := Same.new (Same.refl H) hq1 (o := .lst (cutV ((line st t).map vb) none (some ((i : Int) + 1))))
      refine ⟨_, rfl, _, rfl, i, rfl, _, _, rfl, SqL.of (s1 _ _ hl), fun q2 hq2 => ?_⟩
      have s2 := Same.new s1 hq2 (o := .lst (cutV ((line st t).map vb) (some (i : Int)) none))
      have n12 : q1 ≠ q2 := ne_of_none upd_same hq2
      refine ⟨q1, q2, _, _, rfl, rfl, by rw [upd_ne n12]; exact upd_same, upd_same, ?_, fun q3 hq3 => ?_⟩
      · have := cutV_length ((line st t).map vb) none (some ((i : Int) + 1))
        have := cutV_length ((line st t).map vb) (some (i : Int)) none
        rw [List.length_map] at *
        exact line_pos (by omega)
      have s3 := Same.new s2 hq3 (o := .lst (cutV ((line st t).map vb) none (some ((i : Int) + 1)) ++ cutV ((line st t).map vb) (some (i : Int)) none))
      have T3 := TT.same s3
      have e1 : (i : Int) + 1 = ((i + 1 : Nat) : Int) := by omega
      have ec : cutV ((line st t).map vb) none (some ((i : Int) + 1)) ++ cutV ((line st t).map vb) (some (i : Int)) none = (twice (line st t) i).map vb := by
        rw [e1, cutV_to, cutV_from]
        unfold twice
        rw [if_pos hc, List.map_append, List.map_take, List.map_drop]
      have hq3' : H q3 = none := by
        cases e : H q3 with
        | none => rfl
        | some o => have := s2 _ _ e; rw [this] at hq3; cases hq3
      refine ⟨_, rfl, B.tk, c.T, dx, _, _, rfl, s3 _ _ h1, T.cl, T.nl, tf_l, _, rfl, B.dl, _, rfl, DPut.k (k := Sum.inr (ws t)) (s3 _ _ TT.dl) (line_lt (by show 2 ≤ 100000; decide)), ?_⟩
      rw [lns_put]
      have hn := TT.free hq3'
      have Y := T3.newL t (l := q3) (bl := twice (line st t) i) (by rw [upd_same, ec]) hn
      refine kq hi _ (B.newL t q3) ⟨Y, ((Kp.same s3).put B.in_dl (not_tup_dk (s3 _ _ TT.dl))), rfl, rfl, fun b hb => ?_⟩
      cases t with
      | true =>
        simp only [TA.fp, TA.newL, if_true, List.mem_cons, List.not_mem_nil, or_false] at hb ⊢
        rcases hb with h | h | h | h | h | h
        · exact .inl (.inl h)
        · exact .inl (.inr (.inl h))
        · exact .inl (.inr (.inr (.inl h)))
        · exact .inl (.inr (.inr (.inr (.inl h))))
        · exact .inr (by rw [h]; exact hq3')
        · exact .inl (.inr (.inr (.inr (.inr (.inr h)))))
      | false =>
        simp only [TA.fp, TA.newL, Bool.false_eq_true, if_false, List.mem_cons, List.not_mem_nil, or_false] at hb ⊢
        rcases hb with h | h | h | h | h | h
        · exact .inl (.inl h)
        · exact .inl (.inr (.inl h))
        · exact .inl (.inr (.inr (.inl h)))
        · exact .inl (.inr (.inr (.inr (.inl h))))
        · exact .inl (.inr (.inr (.inr (.inr (.inl h)))))
        · exact .inr (by rw [h]; exact hq3')
    · rw [decide_eq_false (by omega)]
      refine iteF ?_
      have e : rept st t i = st := by
        unfold rept twice
        rw [if_neg hc, setLine_self]
      rw [e] at kq
      exact kq hi H B (Stp.refl TT)
end
end Tk
end

section
set_option Elab.async false
set_option maxRecDepth 100000
set_option maxHeartbeats 4000000
set_option linter.unusedVariables false
/-! The talk's methods: damage, deliver. -/
namespace Tk
open PySem PySem.Spec PyProof.Rows L2
section
variable {P : Program} {w : World} {K : PySem.W.Frag} {mg : Str → Option Value} {base : Heap} {c : Cs} {CR fR : Addr}
theorem scTD : FnScope ["self", "way", "place", "first", "pattern", "payload", "behind"] ["self", "way", "place", "first", "pattern"] (defScope (sTM 7)) := ⟨rfl, rfl, rfl, by decide +kernel, rfl, by decide +kernel, by decide +kernel⟩
theorem map_at {l : List Bits} {i : Nat} {b : Bits} (h : l[i]? = some b) : atI (l.map vb) (i : Int) = some (vb b) := atI_nat (by rw [List.getElem?_map, h]; rfl)
theorem bs_ne0 {p : Bits} : (((bs p).length : Int) != 0) = !decide (p = []) := by
  rw [bs_length]
  cases p with
  | nil => rfl
  | cons x r =>
    have h : ¬ (x :: r) = [] := by simp
    rw [decide_eq_false h]
    simp only [bne_iff_ne, ne_eq, Bool.not_false, List.length_cons]
    omega
theorem ok_TD {f : Addr} {fd : FuncData} (F : Fun K "damage" "Talk.damage" (sTM 7) f fd) (T : TxT K c.T) (TR : PySem.RefX.RefTxt P K mg CR fR) (mC : Met P w K mg base (L2.CX P w) 1 c.T "check_place" (spTC c CR)) (cA : Cal P w K mg base CX0 1 "added" spAdded) (gL : mg "len" = none) :
    FnOk P w K mg base (L2.CX P w) 2 f fd ["self", "way", "place", "first", "pattern"] (spTD c CR) := by
  refine F.okX scTD (fun vs H Q E h => ?_) (fun cdv A outer s H vs Q E hr h => ?_)
  · obtain ⟨A, s, w, g, t, i, f, p, rfl, _⟩ := h
    rfl
  · obtain ⟨B, st, w, g, t, i, f, p, rfl, TT, hlen, hbl, hpl, kq, kf, ke⟩ := h
    refine ⟨_, pss_cons (ps_expr (pe_mt mC hr (passes_call (takes_of rfl rfl rfl rfl) (fun _ _ _ _ z => z)) (pv 0) (pa_cons (pv 1) (pa_cons (pv 2) pa_nil))))
      (pss_cons (ps_set (i := 5) scTD.nd rfl (Or.inl rfl) (pe_ix ix_list (pe_dget (hu_of hr) (pe_fld (pv 0) rfl) (pv 1) (fun _ _ => rfl)) (pv 2) (fun _ _ => rfl)))
      (pss_cons (ps_set (i := 6) scTD.nd rfl (Or.inl rfl) (pe_op op_add (pv 3) (pe_callB call_len_str (by rfl) gL boot_len (pa_cons (pv 4) pa_nil))))
      (pss_cons (ps_if (PW.pt (pw_or (pt_not (pt_truth (pv 4) (by intro _; rfl))) (pw_or1 (pt_cmpR op_gt (pv 6) (pe_callB call_len_str (by rfl) gL boot_len (pa_cons (pv 5) pa_nil)) (nomark _)))))
        (pss_one (ps_raiseRef rfl TR hr (takes_of rfl rfl rfl rfl) (by exact (pa_cons pe_str pa_nil)))) pss_nil)
      (pss_one (ps_asg (pe_op op_add_str (pe_op op_add_str (pe_slice sl_str (pv 5) po_none (po_some (pv 3)))
          (pe_c cA hr pass0 (pa_cons (pe_slice sl_str (pv 5) (po_some (pv 3)) (po_some (pv 6))) (pa_cons (pv 4) pa_nil)))) (pe_slice sl_str (pv 5) (po_some (pv 6)) po_none))
        (pg_sub (pe_dget (hu_of hr) (pe_fld (pv 0) rfl) (pv 1) (fun _ _ => rfl)) (pv 2) set_list)))))), ?_⟩
    obtain ⟨dx, h1⟩ := TT.ob
    refine ⟨_, rfl, B.tk, dx, _, rfl, h1, tf_no (by decide +kernel), _, rfl, _, rfl, B, st, w, g, t, i, rfl, TT, fun hi => ?_, ke⟩
    have hl := TT.line t
    obtain ⟨b, hb⟩ : ∃ b, (line st t)[i]? = some b := ⟨(line st t)[i], List.getElem?_eq_getElem hi⟩
    have lb := hbl b (List.mem_of_getElem? hb)
    have lbs := bs_length b
    have lps := bs_length p
    refine ⟨_, rfl, B.tk, c.T, dx, _, _, rfl, h1, T.cl, T.nl, tf_l, _, rfl, B.dl, _, rfl, lns_get t TT.dl, _, rfl, _, _, _, _, rfl, rfl, SqL.of hl, map_at hb, ?_⟩
    refine ⟨_, rfl, _, rfl, bs p, rfl, line_pos (by omega), _, _, rfl, rfl, ?_⟩
    refine ⟨_, rfl, _, ⟨line_pos (by omega), rfl⟩, ?_⟩
    have e6 : (f : Int) + ((bs p).length : Int) = ((f + p.length : Nat) : Int) := by rw [lps]; omega
    rw [bs_ne0]
    by_cases c1 : p = []
    · rw [decide_eq_true c1]
      refine iteT (iteT ?_)
      exact ⟨_, rfl, fun d hd => kf b hb (.inl c1) d hd⟩
    · rw [decide_eq_false c1]
      refine iteF ?_
      refine ⟨_, rfl, _, rfl, bs b, rfl, line_pos (by omega), _, _, rfl, rfl, _, rfl, ?_⟩
      rw [e6, lbs]
      by_cases c2 : b.length < f + p.length
      · rw [decide_eq_true (by omega)]
        refine iteT ?_
        exact ⟨_, rfl, fun d hd => kf b hb (.inr c2) d hd⟩
      · rw [decide_eq_false (by omega)]
        refine iteF ?_
        refine ⟨_, rfl, _, rfl, _, rfl, bs b, rfl, line_pos (by omega), ?_⟩
        rw [cut_bs_to]
        refine ⟨_, rfl, _, rfl, _, rfl, _, rfl, _, rfl, bs b, rfl, line_pos (by omega), ?_⟩
        rw [e6, cut_bs]
        have e7 : f + p.length - f = p.length := by omega
        rw [e7]
        refine ⟨_, rfl, (b.drop f).take p.length, p, rfl, ?_, ?_, fun H1 s1 => ?_⟩
        · rw [List.length_take, List.length_drop]; omega
        · rw [List.length_take, List.length_drop]; omega
        have lx : (xorB ((b.drop f).take p.length) p).length = p.length := by
          unfold xorB
          rw [List.length_zipWith, List.length_take, List.length_drop]; omega
        refine ⟨_, _, rfl, rfl, ?_, _, rfl, _, rfl, _, rfl, bs b, rfl, line_pos (by omega), ?_⟩
        · rw [bs_length, bs_length, lx, List.length_take]
          exact line_pos (by omega)
        rw [e6, cut_bs_from]
        refine ⟨_, _, rfl, rfl, ?_, ?_⟩
        · rw [← bs_append, bs_length, bs_length, List.length_append, lx, List.length_take, List.length_drop]
          exact line_pos (by omega)
        have T1 := TT.same s1
        have hl1 := T1.line t
        refine ⟨_, rfl, B.tk, c.T, dx, _, _, rfl, s1 _ _ h1, T.cl, T.nl, tf_l, _, rfl, B.dl, _, rfl, lns_get t T1.dl, _, rfl, _, _, _, i, rfl, rfl, hl1, by rw [List.length_map]; exact ixN_at hi, ?_⟩
        have X := T1.setL t ((line st t).set i (damaged b f p))
        have ed : (line st t).getD i [] = b := by simp [List.getD, hb]
        have es : spoil st t i f p = setLine st t ((line st t).set i (damaged b f p)) := by unfold spoil; rw [ed]
        rw [List.map_set] at X
        have ev : vb (damaged b f p) = V.str (bs (b.take f) ++ bs (xorB ((b.drop f).take p.length) p) ++ bs (b.drop (f + p.length))) := by
          unfold damaged vb
          rw [bs_append, bs_append]
          exact congrArg V.str (TL.ext_tl (by simp only [TL.tl_append, List.append_assoc]))
        rw [ev, ← es] at X
        have c3 : ¬ (p = [] ∨ b.length < f + p.length) := fun z => z.elim c1 c2
        exact kq b hb c3 _ (((Stp.refl TT).same s1).trans X)

theorem scTV : FnScope ["self", "way", "payload", "answer"] ["self", "way"] (defScope (sTM 8)) := ⟨rfl, rfl, rfl, by decide +kernel, rfl, by decide +kernel, by decide +kernel⟩
/-- the taker took -/
theorem TalkAt.took {w : Nat} {g : Bits} {H H' : Hp} {B : TA} {st : St} {as : List Addr} {ls : List (List Nat)} (TT : TalkAt c w g H B st) (k : Kp [B.tl] H H') (h : Lts H' B.tl as ls) : Stp c w g H B H' B { st with taken := ls } := by
  obtain ⟨dx, h1⟩ := TT.ob
  obtain ⟨as1, ⟨ds, h2⟩, hs, ht⟩ := TT.send
  obtain ⟨as', ⟨dk, h3⟩, hs', ht'⟩ := TT.take
  have ne := TT.ne
  obtain ⟨n1, n2, n3, n4⟩ := TT.not_ls hs'
  have q : ∀ {b : Addr} {o : HO}, H b = some o → b ≠ B.tl → H' b = some o := fun e hb => k.keep _ _ e (by simpa using hb)
  exact ⟨⟨⟨dx, q h1 n1.symm⟩, ⟨as1, ⟨ds, q h2 n2.symm⟩, q hs ne.a1, ht.mono k.tups⟩, ⟨as, ⟨dk, q h3 n3.symm⟩, h⟩, q TT.dl n4.symm, q TT.lt ne.a4.symm, q TT.lb ne.a5.symm, TT.ndI, TT.ndL⟩,
    k.sub (fun b hb => by rw [List.mem_singleton.mp hb]; exact B.in_tl), rfl, rfl, fun b h => .inl h⟩
/-- the sender heard -/
theorem TalkAt.heard {w : Nat} {g : Bits} {H H' : Hp} {B : TA} {st : St} {n : Nat} (TT : TalkAt c w g H B st) (k : Kp [B.sn] H H') (h : ∃ dx, H' B.sn = some (.ins c.S dx (sf w g B.sl n))) : Stp c w g H B H' B { st with known := n } := by
  obtain ⟨dx, h1⟩ := TT.ob
  obtain ⟨as1, ⟨ds, h2⟩, hs, ht⟩ := TT.send
  obtain ⟨as', ⟨dk, h3⟩, hs', ht'⟩ := TT.take
  have ne := TT.ne
  have q : ∀ {b : Addr} {o : HO}, H b = some o → b ≠ B.sn → H' b = some o := fun e hb => k.keep _ _ e (by simpa using hb)
  exact ⟨⟨⟨dx, q h1 ne.ks⟩, ⟨as1, h, q hs (TT.not_ls hs).2.1, ht.mono k.tups⟩, ⟨as', ⟨dk, q h3 ne.sn.symm⟩, q hs' (TT.not_ls hs').2.1, ht'.mono k.tups⟩, q TT.dl (ins_ne_dk h2 TT.dl).symm, q TT.lt (TT.not_ls TT.lt).2.1, q TT.lb (TT.not_ls TT.lb).2.1, TT.ndI, TT.ndL⟩,
    k.sub (fun b hb => by rw [List.mem_singleton.mp hb]; exact B.in_sn), rfl, rfl, fun b h => .inl h⟩
theorem ws_eq (t : Bool) : decide (V.str (ws t) = V.str "there") = t := by
  cases t with
  | true => decide +kernel
  | false => decide +kernel
theorem ok_TV {f : Addr} {fd : FuncData} (F : Fun K "deliver" "Talk.deliver" (sTM 8) f fd) (T : TxT K c.T) (TK : TxK K c.K) (mC : Met P w K mg base (L2.CX P w) 1 c.T "check_place" (spTC c CR)) (mP : Met P w K mg base CX0 1 c.T "put" (spTP c))
    (mKH : Met P w K mg base CX0 6 c.K "hear" (spKH c.K)) (mSH : Met P w K mg base CX0 6 c.S "hear" (spSH c.S)) : FnOk P w K mg base (L2.CX P w) 7 f fd ["self", "way"] (spTV c CR) := by
  refine F.okX scTV (fun vs H Q E h => ?_) (fun cdv A outer s H vs Q E hr h => ?_)
  · obtain ⟨A, s, w, g, t, rfl, _⟩ := h
    rfl
  · obtain ⟨B, st, w, g, t, rfl, TT, hg, hw, hk, hll, htl, hlen, hback, hbl, kq, ke⟩ := h
    refine ⟨_, pss_cons (ps_expr (pe_mt mC hr (passes_call (takes_of rfl rfl rfl rfl) (fun _ _ _ _ z => z)) (pv 0) (pa_cons (pv 1) (pa_cons pe_int pa_nil))))
      (pss_cons (ps_set (i := 2) scTV.nd rfl (Or.inl rfl) (pe_bm PySem.F.plainAttrs_list PySem.F.slot_list_pop PySem.F.type_list_pop mt_popAt (pe_dget (hu_of hr) (pe_fld (pv 0) rfl) (pv 1) (fun _ _ => rfl)) (pa_cons pe_int pa_nil)))
      (pss_one (ps_if (pt_cmpR op_eq (pv 1) pe_str (nomark _))
        (pss_cons (ps_set (i := 3) scTV.nd rfl (Or.inl rfl) (pe_mt mKH hr pass0 (pe_fld (pv 0) rfl) (pa_cons (pv 2) pa_nil)))
        (pss_one (ps_if (pt_cmpR op_notN (pv 3) pe_non (nomark _)) (pss_one (ps_expr (pe_mt mP hr pass0 (pv 0) (pa_cons pe_str (pa_cons (pv 3) pa_nil))))) pss_nil)))
        (pss_one (ps_expr (pe_mt mSH hr pass0 (pe_fld (pv 0) rfl) (pa_cons (pv 2) pa_nil))))))), ?_⟩
    obtain ⟨dx, h1⟩ := TT.ob
    refine ⟨_, rfl, B.tk, dx, _, rfl, h1, tf_no (by decide +kernel), _, rfl, B, st, w, g, t, 0, rfl, TT, fun hi => ?_, fun hi => ke (List.length_eq_zero_iff.mp (by omega))⟩
    have hl := TT.line t
    obtain ⟨p, r, hpr⟩ : ∃ p r, line st t = p :: r := by
      cases e : line st t with
      | nil => rw [e] at hi; exact absurd hi (Nat.lt_irrefl _)
      | cons p r => exact ⟨p, r, rfl⟩
    have hne : line st t ≠ [] := by rw [hpr]; exact fun z => by cases z
    have lp := hbl p (by rw [hpr]; exact List.mem_cons_self ..)
    refine ⟨_, rfl, B.tk, c.T, dx, _, _, rfl, h1, T.cl, T.nl, tf_l, _, rfl, B.dl, _, rfl, lns_get t TT.dl, .inl ⟨rfl, _, SqL.of hl⟩, _, _, 0, 0, vb p, rfl, rfl, hl, by decide, by decide, by rw [List.length_map, hpr]; exact seq_at (Nat.succ_pos _), by rw [hpr]; rfl, ?_⟩
    have X1 := TT.setL t r
    have er : ((line st t).map vb).eraseIdx 0 = r.map vb := by rw [hpr]; rfl
    rw [er]
    have T1 := X1.ok
    obtain ⟨dx1, h11⟩ := T1.ob
    refine ⟨_, rfl, rfl, _, rfl, ?_⟩
    have kq := kq hne
    cases t with
    | true =>
      refine iteT ?_
      obtain ⟨as, S⟩ := T1.take
      obtain ⟨⟨dk, h3⟩, hs', ht'⟩ := id S
      have hth : st.there = p :: r := hpr
      refine ⟨_, rfl, B.tk, c.T, dx1, _, _, rfl, h11, T.cl, T.nt, tf_k, B.tn, dk, _, rfl, h3, kf_no (by decide +kernel), _, rfl, B.tn, B.tl, as, st.taken, w, g, p, rfl, S, hg, hw, htl, lp, fun e H2 s2 => ?_, fun ls' e H2 as' k2 l2 => ?_⟩
      · refine ⟨_, rfl, rfl, _, rfl, iteF ?_⟩
        have ed : delT w g st = { st with there := r } := by unfold delT; rw [hth]; show (match hearT w g st.taken p with | none => _ | some tk => _) = _; rw [e]
        refine kq H2 ?_
        show Stp c w g H B H2 B (delT w g st)
        rw [ed]
        exact X1.same s2
      · refine ⟨_, rfl, rfl, _, rfl, iteT ?_⟩
        have X2 := T1.took k2 l2
        obtain ⟨dx2, h12⟩ := X2.ok.ob
        have ed : delT w g st = { st with there := r, taken := ls', back := put st.back (ans w g ls') } := by unfold delT; rw [hth]; show (match hearT w g st.taken p with | none => _ | some tk => _) = _; rw [e]
        refine ⟨_, rfl, B.tk, dx2, _, rfl, h12, tf_no (by decide +kernel), _, rfl, B, _, w, g, ans w g ls', false, rfl, X2.ok, hback, fun H3 X3 => kq H3 ?_⟩
        show Stp c w g H B H3 B (delT w g st)
        rw [ed]
        exact (X1.trans X2).trans X3
    | false =>
      refine iteF ?_
      obtain ⟨as, S⟩ := T1.send
      obtain ⟨⟨ds, h2⟩, hs, ht⟩ := id S
      have hbk : st.back = p :: r := hpr
      refine ⟨_, rfl, B.tk, c.T, dx1, _, _, rfl, h11, T.cl, T.ns, tf_s, B.sn, ds, _, rfl, h2, sf_no (by decide +kernel), _, rfl, B.sn, B.sl, as, st, w, g, p, rfl, S, hg, hw, hk, hll, lp, fun v H2 k2 e2 => ?_⟩
      have X2 := T1.heard k2 e2
      refine kq H2 ?_
      have ed : delB w g st = { st with back := r, known := hearS w g st p } := by unfold delB; rw [hbk]
      show Stp c w g H B H2 B (delB w g st)
      rw [ed]
      exact X1.trans X2
end
end Tk
end

section
set_option Elab.async false
set_option maxRecDepth 100000
set_option maxHeartbeats 4000000
set_option linter.unusedVariables false
/-! finish. -/
namespace Tk
open PySem PySem.Spec PyProof.Rows L2
def spTF (c : Cs) : Sp := fun vs H Q _ => ∃ (A : TA) (s : St) (w : Nat) (g : Bits) (sp : List Bits), vs = [.ref A.tk] ∧ TalkAt c w g H A s ∧ Good w g sp s ∧ s.letters.length ≤ 60 ∧
  ∀ r H' s', Stp c w g H A H' A s' → s'.taken = s.letters → s'.known = s.letters.length → Q (.int r) H'
section
variable {P : Program} {w : World} {K : PySem.W.Frag} {mg : Str → Option Value} {base : Heap} {c : Cs} {CR fR : Addr}
theorem scTF : FnScope ["self", "rounds", "way"] ["self"] (defScope (sTM 12)) := ⟨rfl, rfl, rfl, by decide +kernel, rfl, by decide +kernel, by decide +kernel⟩
theorem ok_TF {f : Addr} {fd : FuncData} (F : Fun K "finish" "Talk.finish" (sTM 12) f fd) (T : TxT K c.T) (TS : TxS K c.S) (mS : Met P w K mg base CX0 7 c.T "send" (spTS c)) (mV : Met P w K mg base (L2.CX P w) 7 c.T "deliver" (spTV c CR))
    (gL : mg "len" = none) (hW : ∃ aw, mg "WAYS" = some (.ref aw) ∧ ∀ H, SqT K H aw [.str "there", .str "back"]) : FnOk P w K mg base CX0 8 f fd ["self"] (spTF c) := by
  refine F.ok scTF (fun vs H Q E h => ?_) (fun cdv A outer s H vs Q E hr h => ?_)
  · obtain ⟨A, s, w, g, sp, rfl, _⟩ := h
    rfl
  · obtain ⟨B, st, w, g, sp, rfl, TT, G, hlen, k⟩ := h
    obtain ⟨aw, hW, hT⟩ := hW
    refine ⟨_, pss_cons (ps_set (i := 1) scTF.nd rfl (Or.inl rfl) pe_int)
      (pss_cons (ps_while PassesOwn.never (pt_cmpR op_lt (pe_fld (pe_fld (pv 0) rfl) rfl) (pe_callB call_len_seq (by rfl) gL boot_len (pa_cons (pe_fld (pe_fld (pv 0) rfl) rfl) pa_nil)) (nomark _))
        (pss_cons (ps_expr (pe_mt0 mS hr pass0 (pv 0)))
        (pss_cons (ps_for PassesOwn.never rfl (pi_tup (pe_glob (v := .ref aw) rfl hW rfl)) (pg_name (i := 2) scTF.nd rfl (Or.inl rfl))
          (pss_one (ps_while PassesOwn.never (pt_truth (pe_dget (hu_of hr) (pe_fld (pv 0) rfl) (pv 2) (fun _ _ => rfl)) (by intro _; rfl))
            (pss_one (ps_expr (pe_mt mV hr passL (pv 0) (pa_cons (pv 2) pa_nil)))))))
        (pss_one (ps_aug (i := 1) scTF.nd rfl (Or.inl rfl) pe_int ip_add)))))
      (pss_one (ps_ret (pv 1)))), ?_⟩
    refine ⟨fun m σ H' => ∃ s', m = left s' ∧ Stp c w g H B H' B s' ∧ Good w g sp s' ∧ s'.letters = st.letters ∧ ∃ (r : Int) (v : Option V), σ = [some (.ref B.tk), some (.int r), v], ⟨_, st, rfl, Stp.refl TT, G, rfl, 0, none, rfl⟩, ?_⟩
    rintro m σ H' ⟨s', rfl, X, G', el, r, v, rfl⟩
    have T' := X.ok
    obtain ⟨dx, h1⟩ := T'.ob
    obtain ⟨as, ⟨⟨ds, h2⟩, hl, ht⟩⟩ := T'.send
    refine ⟨_, rfl, B.tk, c.T, dx, _, _, rfl, h1, T.cl, T.ns, tf_s, B.sn, c.S, ds, _, _, rfl, h2, TS.cl, TS.nd, sf_d, _, rfl, B.tk, c.T, dx, _, _, rfl, h1, T.cl, T.ns, tf_s, B.sn, c.S, ds, _, _, rfl, h2, TS.cl, TS.nl, sf_l, B.sl, _, rfl, .inl (SqL.of hl), _, _, rfl, rfl, _, rfl, ?_⟩
    rw [List.length_map, ht.1]
    by_cases hc : s'.known < s'.letters.length
    · rw [decide_eq_true (by omega)]
      refine iteT ?_
      refine ⟨fun σ' H2 => ∃ s2, left s2 < left s' ∧ Stp c w g H B H2 B s2 ∧ Good w g sp s2 ∧ s2.letters = st.letters ∧ ∃ (r : Int) (v : Option V), σ' = [some (.ref B.tk), some (.int r), v], fun σ' H2 ⟨s2, l2, h⟩ => ⟨_, l2, s2, rfl, h⟩, ?_⟩
      have hk := G'.kt
      have hn := G'.tn
      have P0 := phT_start G'
      refine ⟨_, rfl, B.tk, dx, _, rfl, h1, tf_no (by decide +kernel), B, s', w, g, rfl, T', G'.gen, G'.w7, by omega, by rw [el]; omega, G'.byt, G'.l1, fun H2 X2 => ?_⟩
      refine ⟨aw, rfl, ⟨_, hT _⟩, ?_⟩
      -- what stands while the lines are emptied
      have use : ∀ {H3 : Hp} {s3 : Tk.St} {t : Bool} {σ3 : L2.St} {Q3 : VK}, Stp c w g H B H3 B s3 → Good w g sp s3 → s3.letters = s'.letters → line s3 t ≠ [] →
          (∀ H4, Stp c w g H3 B H4 B (if t = true then delT w g s3 else delB w g s3) → Q3 .non H4) → spTV c CR [.ref B.tk, .str (ws t)] H3 Q3 E0 := fun {H3 s3 t σ3 Q3} X3 G3 e3 n3 k3 => by
        have h7 := G3.w7
        have a1 := G3.kt
        have a2 := G3.tn
        have a3 := G3.l1
        have a4 := G3.l2
        rw [e3, el] at a2
        have a5 : (line s3 t).length ≤ 40 := by cases t <;> assumption
        refine ⟨B, s3, w, g, t, rfl, X3.ok, G3.gen, G3.w7, by rw [e3, el]; omega, by rw [e3, el]; omega, by omega, by omega, by omega, fun b hb => ?_, fun _ => k3, fun z => absurd z n3⟩
        cases t with
        | true => have := G3.lenT b hb; omega
        | false => have := G3.lenB b hb; omega
      refine for_tup (xs := [.str "there", .str "back"]) (fun i σ H3 => ∃ s3, Stp c w g H B H3 B s3 ∧ (i = 0 → PhT w g sp s'.letters s'.known (s'.there = [] ∧ s'.back = []) s3) ∧ (i = 1 → PhB w g sp s'.letters s'.known (s'.there = [] ∧ s'.back = []) s3) ∧
        (i = 2 → PhB w g sp s'.letters s'.known (s'.there = [] ∧ s'.back = []) s3 ∧ s3.back = []) ∧ ∃ v : Option V, σ = [some (.ref B.tk), some (.int r), v]) ⟨_, X.trans X2, fun _ => P0, (fun z => by cases z), (fun z => by cases z), _, rfl⟩ (fun i σ H3 _ _ => hT _) ?_ ?_
      · rintro i x σ H3 hi ⟨s3, X3, p0, p1, p2, v, rfl⟩
        match i, hi with
        | 0, hi =>
          obtain rfl : V.str "there" = x := Option.some.inj hi
          have Ph := p0 rfl
          refine ⟨fun m σ H4 => ∃ s4, m = s4.there.length ∧ Stp c w g H B H4 B s4 ∧ PhT w g sp s'.letters s'.known (s'.there = [] ∧ s'.back = []) s4 ∧ σ = [some (.ref B.tk), some (.int r), some (.str (ws true))], ⟨_, s3, rfl, X3, Ph, rfl⟩, ?_⟩
          rintro m σ H4 ⟨s4, rfl, X4, Ph4, rfl⟩
          have T4 := X4.ok
          obtain ⟨dx4, h14⟩ := T4.ob
          refine ⟨_, rfl, B.tk, c.T, dx4, _, _, rfl, h14, T.cl, T.nl, tf_l, _, rfl, B.dl, _, rfl, lns_get true T4.dl, _, .inl ⟨_, SqL.of (T4.line true), rfl⟩, ?_⟩
          show if (!(s4.there.map vb).isEmpty) = true then _ else _
          cases e4 : s4.there with
          | nil =>
            refine iteF ?_
            exact ⟨s4, X4, (fun z => by cases z), fun _ => phT_end Ph4 e4, (fun z => by cases z), _, rfl⟩
          | cons q rest =>
            refine iteT ?_
            have hn4 : s4.there ≠ [] := by rw [e4]; exact fun z => by cases z
            obtain ⟨Ph5, lt5⟩ := phT_step Ph4 hn4
            refine ⟨fun σ' H5 => ∃ s5, s5.there.length < s4.there.length ∧ Stp c w g H B H5 B s5 ∧ PhT w g sp s'.letters s'.known (s'.there = [] ∧ s'.back = []) s5 ∧ σ' = [some (.ref B.tk), some (.int r), some (.str (ws true))], fun σ' H5 ⟨s5, l5, h⟩ => ⟨_, by rw [← e4]; exact l5, s5, rfl, h⟩, ?_⟩
            refine ⟨_, rfl, B.tk, dx4, _, rfl, h14, tf_no (by decide +kernel), _, rfl, ?_⟩
            delta tNil
            show spTV c CR [.ref B.tk, .str (ws true)] H4 _ _
            refine use (t := true) (σ3 := []) X4 Ph4.good Ph4.same hn4 fun H5 X5 => ?_
            exact ⟨_, lt5, X4.trans X5, Ph5, rfl⟩
        | 1, hi =>
          obtain rfl : V.str "back" = x := Option.some.inj hi
          have Ph := p1 rfl
          refine ⟨fun m σ H4 => ∃ s4, m = s4.back.length ∧ Stp c w g H B H4 B s4 ∧ PhB w g sp s'.letters s'.known (s'.there = [] ∧ s'.back = []) s4 ∧ σ = [some (.ref B.tk), some (.int r), some (.str (ws false))], ⟨_, s3, rfl, X3, Ph, rfl⟩, ?_⟩
          rintro m σ H4 ⟨s4, rfl, X4, Ph4, rfl⟩
          have T4 := X4.ok
          obtain ⟨dx4, h14⟩ := T4.ob
          refine ⟨_, rfl, B.tk, c.T, dx4, _, _, rfl, h14, T.cl, T.nl, tf_l, _, rfl, B.dl, _, rfl, lns_get false T4.dl, _, .inl ⟨_, SqL.of (T4.line false), rfl⟩, ?_⟩
          show if (!(s4.back.map vb).isEmpty) = true then _ else _
          cases e4 : s4.back with
          | nil =>
            refine iteF ?_
            exact ⟨s4, X4, (fun z => by cases z), (fun z => by cases z), fun _ => ⟨Ph4, e4⟩, _, rfl⟩
          | cons q rest =>
            refine iteT ?_
            have hn4 : s4.back ≠ [] := by rw [e4]; exact fun z => by cases z
            obtain ⟨Ph5, lt5⟩ := phB_step Ph4 hn4
            refine ⟨fun σ' H5 => ∃ s5, s5.back.length < s4.back.length ∧ Stp c w g H B H5 B s5 ∧ PhB w g sp s'.letters s'.known (s'.there = [] ∧ s'.back = []) s5 ∧ σ' = [some (.ref B.tk), some (.int r), some (.str (ws false))], fun σ' H5 ⟨s5, l5, h⟩ => ⟨_, by rw [← e4]; exact l5, s5, rfl, h⟩, ?_⟩
            refine ⟨_, rfl, B.tk, dx4, _, rfl, h14, tf_no (by decide +kernel), _, rfl, ?_⟩
            delta tNil
            show spTV c CR [.ref B.tk, .str (ws false)] H4 _ _
            refine use (t := false) (σ3 := []) X4 Ph4.good Ph4.same hn4 fun H5 X5 => ?_
            exact ⟨_, lt5, X4.trans X5, Ph5, rfl⟩
        | i + 2, hi => simp at hi
      · rintro σ H3 ⟨s3, X3, _, _, p2, v, rfl⟩
        obtain ⟨Ph3, eb⟩ := p2 rfl
        refine ⟨_, rfl, _, _, rfl, rfl, s3, left_falls hc Ph3 eb, X3, Ph3.good, Ph3.same.trans el, _, _, rfl⟩
    · rw [decide_eq_false (by omega)]
      refine iteF ?_
      obtain ⟨e1, e2⟩ := good_all G' hc
      refine ⟨_, rfl, ?_⟩
      exact k r H' s' X (by rw [e1, el]) (by rw [e2, el])
end
end Tk
end

section
set_option Elab.async false
set_option maxRecDepth 100000
set_option maxHeartbeats 4000000
set_option linter.unusedVariables false
/-! The law's cells, draws, generators, letters. -/
namespace Tk
open PySem PySem.Spec PyProof.Rows L2
abbrev sCell : Stmt := top_ 25
abbrev sDraws : Stmt := top_ 26
abbrev sGen : Stmt := top_ 28
abbrev sLet : Stmt := top_ 29
def spCe (K : PySem.W.Frag) : Sp := fun vs H Q _ => ∃ (a : Addr) (ns : List Int) (j : Int), vs = [.ref a, .int j] ∧ SqL K H a (ns.map V.int) ∧ 0 ≤ j ∧ ∀ z : Int, Q (.int z) H
def spDr : Sp := fun vs H Q _ => ∃ (c : Int) (n : Nat), vs = [.int c, vn n] ∧ n ≤ 1000 ∧ ∀ (ds : List Nat) (p : Addr) (H' : Hp), ds.length = n → (∀ d ∈ ds, d < 1000003) → Same H H' → H p = none → H' p = some (.lst (ds.map vn)) → Q (.ref p) H'
def spGe : Sp := fun vs H Q _ => ∃ c : Int, vs = [.int c] ∧ ∀ g H', Gen g → Same H H' → Q (vb g) H'
def spLe : Sp := fun vs H Q _ => ∃ (c : Int) (m : Nat), vs = [.int c, vn m] ∧ m ≤ 10 ∧ ∀ (x : List Nat) (p : Addr) (H' : Hp), x.length ≤ m → (∀ y ∈ x, y < 256) → Same H H' → H p = none → H' p = some (.tup (x.map vn)) → Q (.ref p) H'
section
variable {P : Program} {w : World} {K : PySem.W.Frag} {mg : Str → Option Value} {base : Heap}
theorem scCell : FnScope ["_law_script", "_law_k"] ["_law_script", "_law_k"] (defScope sCell) := ⟨rfl, rfl, rfl, by decide +kernel, rfl, by decide +kernel, by decide +kernel⟩
theorem ok_cell {f : Addr} {fd : FuncData} (D : Def K mg "_law_cell" sCell ["_law_script", "_law_k"] f fd) (gL : mg "len" = none) : FnOk P w K mg base CX0 1 f fd ["_law_script", "_law_k"] (spCe K) := by
  refine D.fn.ok scCell (fun vs H Q E h => ?_) (fun cdv A outer s H vs Q E hr h => ?_)
  · obtain ⟨a, ns, j, rfl, _⟩ := h
    rfl
  · obtain ⟨a, ns, j, rfl, hS, hj, k⟩ := h
    refine ⟨_, pss_cons (ps_if (pt_cmpR op_lt (pv 1) (pe_callB call_len_seq (by rfl) gL boot_len (pa_cons (pv 0) pa_nil)) (nomark _)) (pss_one (ps_ret (pe_ix ix_list (pv 0) (pv 1) (fun _ _ => rfl)))) pss_nil) (pss_one (ps_ret pe_int)), ?_⟩
    obtain ⟨n, rfl⟩ := Int.eq_ofNat_of_zero_le hj
    refine ⟨_, rfl, _, rfl, a, _, rfl, .inl hS, _, _, rfl, rfl, _, rfl, ?_⟩
    rw [List.length_map]
    by_cases c : n < ns.length
    · rw [decide_eq_true (by omega)]
      exact iteT ⟨_, rfl, _, rfl, a, _, _, _, rfl, rfl, hS, atI_nat (v := V.int ns[n]) (by rw [List.getElem?_map, List.getElem?_eq_getElem c]; rfl), k _⟩
    · rw [decide_eq_false (by omega)]
      exact iteF (k 0)

theorem scDraws : FnScope ["_law_cell_here", "_law_count", "_law_found", "_law_is_wide", "_law_k", "_law_mixed"] ["_law_cell_here", "_law_count"] (defScope sDraws) := ⟨rfl, rfl, rfl, by decide +kernel, rfl, by decide +kernel, by decide +kernel⟩
theorem mod_nat (z : Int) (m : Nat) (hm : 0 < m) : ∃ d : Nat, z % (m : Int) = (d : Int) ∧ d < m := by
  have h1 := Int.emod_nonneg z (show (m : Int) ≠ 0 by omega)
  have h2 := Int.emod_lt_of_pos z (show (0 : Int) < m by omega)
  exact ⟨(z % (m : Int)).toNat, by omega, by omega⟩
theorem snoc_lt {ds : List Nat} {d m : Nat} (h : ∀ x ∈ ds, x < m) (hd : d < m) : ∀ x ∈ ds ++ [d], x < m := fun x hx => by
  rcases List.mem_append.mp hx with hx | hx
  · exact h x hx
  · rw [List.mem_singleton.mp hx]; exact hd
theorem ok_draws {f : Addr} {fd : FuncData} (D : Def K mg "_law_draws" sDraws ["_law_cell_here", "_law_count"] f fd) (gR : mg "range" = none) (gI : mg "int" = none) : FnOk P w K mg base CX0 1 f fd ["_law_cell_here", "_law_count"] spDr := by
  refine D.fn.ok scDraws (fun vs H Q E h => ?_) (fun cdv A outer s H vs Q E hr h => ?_)
  · obtain ⟨c, n, rfl, _⟩ := h
    rfl
  · obtain ⟨c, n, rfl, hn, k⟩ := h
    refine ⟨_, pss_cons (ps_set (i := 2) scDraws.nd rfl (Or.inl rfl) (pe_lst pa_nil))
      (pss_cons (ps_set (i := 3) scDraws.nd rfl (Or.inl rfl) (pe_cmpR op_ge (pv 0) (pe_op op_pow pe_int pe_int) (nomark _)))
      (pss_cons (ps_for PassesOwn.never rfl (pi_range1 (by rfl) gR (pa_cons (pv 1) pa_nil)) (pg_name (i := 4) scDraws.nd rfl (Or.inl rfl))
        (pss_one (ps_if (pt_val (pv 3))
          (pss_cons (ps_expr (pe_bm PySem.F.plainAttrs_list PySem.F.slot_list_append PySem.F.type_list_append mt_append (pv 2) (pa_cons (pe_op op_mod (pe_callTy call_int1 (by rfl) gI (by decide +kernel) (pa_cons (pv 0) pa_nil)) pe_int) pa_nil)))
          (pss_one (ps_set (i := 0) scDraws.nd rfl (Or.inl rfl) (pe_op op_fdiv (pv 0) pe_int))))
          (pss_cons (ps_set (i := 5) scDraws.nd rfl (Or.inl rfl) (pe_op op_mod (pe_callTy call_int1 (by rfl) gI (by decide +kernel) (pa_cons (pe_op op_add (pe_op op_mul (pv 0) pe_int) (pe_op op_mul (pv 4) pe_int)) pa_nil)) pe_int))
          (pss_one (ps_expr (pe_bm PySem.F.plainAttrs_list PySem.F.slot_list_append PySem.F.type_list_append mt_append (pv 2) (pa_cons (pe_op op_mod (pe_callTy call_int1 (by rfl) gI (by decide +kernel)
            (pa_cons (pe_op op_add (pe_op op_add (pe_op op_mul (pv 5) (pv 5)) (pe_op op_mul (pv 0) pe_int)) (pv 4)) pa_nil)) pe_int) pa_nil))))))))
      (pss_one (ps_ret (pv 2))))), ?_⟩
    refine ⟨Nat.zero_le _, fun p hp => ?_⟩
    refine ⟨_, rfl, _, _, rfl, rfl, ⟨by decide, by decide, by decide⟩, _, _, rfl, rfl, ?_⟩
    refine ⟨_, rfl, (n : Int), rfl, by omega, by omega, ?_⟩
    rw [Int.toNat_natCast]
    refine for_range (lo := 0) (n := n) (fun i σ H' => Same H H' ∧ ∃ (c : Int) (b : Bool) (ds : List Nat) (v4 v5 : Option V), ds.length = i ∧ (∀ d ∈ ds, d < 1000003) ∧ H' p = some (.lst (ds.map vn)) ∧ σ = [some (.int c), some (vn n), some (.ref p), some (.bl b), v4, v5])
      ⟨Same.new (Same.refl H) hp, c, _, [], none, none, rfl, (fun d hd => by cases hd), upd_same, rfl⟩ ?_ ?_
    · rintro i σ H' hi ⟨s1, c, b, ds, v4, v5, hl, hd, hp', rfl⟩
      have fin : ∀ (z : Int) (d : Nat), z = (d : Int) → d < 1000003 → Same H (upd H' p (.lst (ds.map vn ++ [V.int z]))) ∧ (ds ++ [d]).length = i + 1 ∧ (∀ x ∈ ds ++ [d], x < 1000003) ∧ upd H' p (.lst (ds.map vn ++ [V.int z])) p = some (.lst ((ds ++ [d]).map vn)) := fun z d ez hd1 => by
        subst ez
        refine ⟨fun b o e => ?_, by rw [List.length_append, hl]; rfl, snoc_lt hd hd1, by rw [upd_same, List.map_append]; rfl⟩
        rw [upd_ne (ne_of_none e hp)]
        exact s1 b o e
      refine ⟨_, rfl, b, rfl, ?_⟩
      cases b with
      | true =>
        refine iteT ?_
        obtain ⟨d, ed, dl⟩ := mod_nat c 1009 (by decide)
        refine ⟨_, rfl, .inl ⟨rfl, _, SqL.of hp'⟩, _, rfl, .inl ⟨_, rfl, _, _, rfl, rfl, (by show (0 : Int) < 1009; decide), p, _, _, rfl, rfl, hp', ?_, ?_⟩⟩
        · rw [List.length_map]; exact line_lt (by omega)
        obtain ⟨f1, f2, f3, f4⟩ := fin (c % 1009) d ed (by omega)
        exact ⟨_, rfl, _, _, rfl, rfl, ⟨by decide, by decide⟩, f1, _, true, ds ++ [d], _, _, f2, f3, f4, rfl⟩
      | false =>
        refine iteF ?_
        refine ⟨_, rfl, _, _, rfl, rfl, .inr ⟨by decide, by decide⟩, _, rfl, _, _, rfl, rfl, .inr ⟨by decide, by decide⟩, _, _, rfl, rfl, .inl ⟨_, rfl, _, _, rfl, rfl, (by show (0 : Int) < 2147483647; decide), ?_⟩⟩
        have m1 := Int.emod_nonneg (c * 48271 + (0 + (i : Int)) * 69621) (show (2147483647 : Int) ≠ 0 by decide)
        have m2 := Int.emod_lt_of_pos (c * 48271 + (0 + (i : Int)) * 69621) (show (0 : Int) < 2147483647 by decide)
        generalize hm : (c * 48271 + (0 + (i : Int)) * 69621) % 2147483647 = m at m1 m2
        obtain ⟨d, ed, dl⟩ := mod_nat (m * m + c * 31 + (0 + (i : Int))) 1000003 (by decide)
        refine ⟨_, rfl, .inl ⟨rfl, _, SqL.of hp'⟩, V.int m, ?_, V.int m, ?_, _, _, rfl, rfl, .inl ⟨by omega, by omega⟩, _, rfl, _, _, rfl, rfl, .inr ⟨by decide, by decide⟩, _, _, rfl, rfl, _, rfl, _, _, rfl, rfl, .inl ⟨_, rfl, _, _, rfl, rfl, (by show (0 : Int) < 1000003; decide), p, _, _, rfl, rfl, hp', ?_, ?_⟩⟩
        · exact congrArg (fun z => some (some (V.int z))) hm
        · exact congrArg (fun z => some (some (V.int z))) hm
        · rw [List.length_map]; exact line_lt (by omega)
        obtain ⟨f1, f2, f3, f4⟩ := fin (((m * m + c * 31 + (0 + (i : Int)))) % 1000003) d ed dl
        exact ⟨f1, _, false, ds ++ [d], _, _, f2, f3, f4, rfl⟩
    · rintro σ H' ⟨s1, c, b, ds, v4, v5, hl, hd, hp', rfl⟩
      exact ⟨_, rfl, k ds p H' hl hd s1 hp hp'⟩
end
end Tk
end

section
set_option Elab.async false
set_option maxRecDepth 100000
set_option maxHeartbeats 4000000
set_option linter.unusedVariables false
/-! The law's generators, letters. -/
namespace Tk
open PySem PySem.Spec PyProof.Rows L2
section
variable {P : Program} {w : World} {K : PySem.W.Frag} {mg : Str → Option Value} {base : Heap}
theorem scGen : FnScope ["_law_cell_here", "_law_known", "_law_draws_here", "_law_k"] ["_law_cell_here"] (defScope sGen) := ⟨rfl, rfl, rfl, by decide +kernel, rfl, by decide +kernel, by decide +kernel⟩
def gens : List Bits := [[true, true], [true, false, true], [true, true, true], [true, false, true, true], [true, false, false, true, true], [true, true, false, false, true], [true, false, false, true, false, true],
  [true, false, false, false, false, false, true, true, true], [true, true, true, false, true, false, true, false, true], [true, false, false, false, false, true, true]]
theorem gens_eq : ([("11" : Str), "101", "111", "1011", "10011", "11001", "100101", "100000111", "111010101", "1000011"] : List Str) = gens.map bs := by decide +kernel
theorem gens_gen : ∀ g ∈ gens, Gen g := by
  intro g hg
  unfold gens at hg
  simp only [List.mem_cons, List.not_mem_nil, or_false] at hg
  rcases hg with rfl | rfl | rfl | rfl | rfl | rfl | rfl | rfl | rfl | rfl <;> exact ⟨rfl, rfl, by decide, by decide⟩
theorem lit_at {ds : List Nat} {d i : Nat} (h : ds[i]? = some d) : atI (ds.map vn) (i : Int) = some (vn d) := atI_nat (by rw [List.getElem?_map, h]; rfl)
theorem log_bit (m : Nat) : (((m % 2 : Nat) : Int)).natAbs.log2 < 1920 := by
  rw [Int.natAbs_natCast]
  have h01 : m % 2 = 0 ∨ m % 2 = 1 := by omega
  rcases h01 with q | q
  · rw [q]; decide
  · rw [q]; decide
theorem ones_len : ∀ {l : List Bits}, (∀ b ∈ l, b.length = 1) → l.flatten.length = l.length
  | [], _ => rfl
  | a :: l, h => by
    rw [List.flatten_cons, List.length_append, ones_len fun b hb => h b (List.mem_cons_of_mem _ hb), h a (List.mem_cons_self ..), List.length_cons]
    omega
theorem snoc_one {l : List Bits} {x : Bool} (h : ∀ b ∈ l, b.length = 1) : ∀ b ∈ l ++ [[x]], b.length = 1 := fun b hb => by
  rcases List.mem_append.mp hb with hb | hb
  · exact h b hb
  · rw [List.mem_singleton.mp hb]; rfl
theorem ok_gen {f : Addr} {fd : FuncData} (D : Def K mg "_law_generator" sGen ["_law_cell_here"] f fd) (cD : Cal P w K mg base CX0 1 "_law_draws" spDr) (gR : mg "range" = none) (gI : mg "int" = none) (gS : mg "str" = none) :
    FnOk P w K mg base CX0 2 f fd ["_law_cell_here"] spGe := by
  refine D.fn.ok scGen (fun vs H Q E h => ?_) (fun cdv A outer s H vs Q E hr h => ?_)
  · obtain ⟨c, rfl, _⟩ := h
    rfl
  · obtain ⟨c, rfl, k⟩ := h
    refine ⟨_, pss_cons (ps_set (i := 1) scGen.nd rfl (Or.inl rfl) (pe_lst (pa_cons pe_str (pa_cons pe_str (pa_cons pe_str (pa_cons pe_str (pa_cons pe_str (pa_cons pe_str (pa_cons pe_str (pa_cons pe_str (pa_cons pe_str (pa_cons pe_str pa_nil))))))))))))
      (pss_cons (ps_set (i := 2) scGen.nd rfl (Or.inr rfl) (pe_c cD hr pass0 (pa_cons (pv 0) (pa_cons pe_int pa_nil))))
      (pss_cons (ps_if (pt_cmpR op_gt (pe_op op_mod (pe_callTy call_int1 (by rfl) gI (by decide +kernel) (pa_cons (pe_ix ix_list (pv 2) pe_int (fun _ _ => rfl)) pa_nil)) pe_int) pe_int (nomark _))
        (pss_one (ps_ret (pe_ix ix_list (pv 1) (pe_op op_mod (pe_callTy call_int1 (by rfl) gI (by decide +kernel) (pa_cons (pe_ix ix_list (pv 2) pe_int (fun _ _ => rfl)) pa_nil)) pe_int) (fun _ _ => rfl)))) pss_nil)
      (pss_one (ps_ret (pe_op op_add_str (pe_op op_add_str pe_str (pe_join pe_str (pe_lc (own := [("_law_k", 3)]) (g := gName 3) (tt := tYes) rfl scGen.nd
        (pi_range1 (by rfl) gR (pa_cons (pe_op op_mod (pe_callTy call_int1 (by rfl) gI (by decide +kernel) (pa_cons (pe_ix ix_list (pv 2) pe_int (fun _ _ => rfl)) pa_nil)) pe_int) pa_nil))
        (blkOk_by (N := ["_law_cell_here", "_law_known", "_law_draws_here", "_law_k"]) (sc := defScope sGen) (by decide +kernel))
        (fun _ _ _ _ _ => pg_name (i := 3) scGen.nd rfl (Or.inl rfl)) (fun _ _ _ _ _ => pts_nil)
        (fun _ _ _ _ _ => pe_callTy call_str_int (by rfl) gS (by decide +kernel) (pa_cons (pe_op op_mod (pe_callTy call_int1 (by rfl) gI (by decide +kernel) (pa_cons (pe_ix (show IxR _ (rIxL K) from ix_list) (pv 2) (pe_op op_add pe_int (pv 3)) (fun _ _ => rfl)) pa_nil)) pe_int) pa_nil))))) pe_str))))), ?_⟩
    refine ⟨(by show 10 ≤ sizeLine; exact line_pos (by decide)), fun q hq => ?_⟩
    refine ⟨_, rfl, c, 9, rfl, by decide, fun ds p H1 hl hd s1 hp hp1 => ?_⟩
    have s0 : Same H H1 := Same.newer hq s1
    have hq1 : H1 q = some (.lst (gens.map vb)) := by
      have e : (gens.map vb) = [V.str ("11" : Str), .str "101", .str "111", .str "1011", .str "10011", .str "11001", .str "100101", .str "100000111", .str "111010101", .str "1000011"] := by
        have := congrArg (List.map V.str) gens_eq
        rw [List.map_map] at this
        exact this.symm
      rw [e]
      exact s1 _ _ upd_same
    obtain ⟨d0, h0⟩ : ∃ d, ds[0]? = some d := ⟨ds[0]'(by omega), List.getElem?_eq_getElem (by omega)⟩
    obtain ⟨d1, h1⟩ : ∃ d, ds[1]? = some d := ⟨ds[1]'(by omega), List.getElem?_eq_getElem (by omega)⟩
    refine ⟨_, rfl, p, _, _, _, rfl, rfl, SqL.of hp1, lit_at h0, .inl ⟨_, rfl, _, _, rfl, rfl, (by show (0 : Int) < 3; decide), _, _, rfl, rfl, _, rfl, ?_⟩⟩
    refine ite2 (fun _ => ?_) (fun _ => ?_)
    · refine ⟨_, rfl, _, rfl, p, _, _, _, rfl, rfl, SqL.of hp1, lit_at h1, .inl ⟨_, rfl, _, _, rfl, rfl, (by show (0 : Int) < 10; decide), ?_⟩⟩
      have hm := Nat.mod_lt d1 (show 0 < 10 by decide)
      obtain ⟨g, hg⟩ : ∃ g, gens[d1 % 10]? = some g := ⟨gens[d1 % 10]'(by show _ < 10; omega), List.getElem?_eq_getElem _⟩
      refine ⟨q, _, ((d1 % 10 : Nat) : Int), vb g, rfl, congrArg V.int (by omega), SqL.of hq1, atI_nat (by rw [List.getElem?_map, hg]; rfl), k g H1 (gens_gen g (List.mem_of_getElem? hg)) s0⟩
    · refine ⟨⟨_, rfl⟩, _, rfl, p, _, _, _, rfl, rfl, SqL.of hp1, lit_at h1, .inl ⟨_, rfl, _, _, rfl, rfl, (by show (0 : Int) < 7; decide), ?_⟩⟩
      refine ⟨((d1 % 7 : Nat) : Int), congrArg (fun z => [V.int z]) (by omega), by omega, by omega, fun D hD => ?_⟩
      rw [Int.toNat_natCast]
      have hm := Nat.mod_lt d1 (show 0 < 7 by decide)
      have npD : p ≠ D := ne_of_none hp1 hD
      refine lc_range (lo := 0) (n := d1 % 7) (fun i H' => Same H1 H' ∧ ∃ bl : List Bits, bl.length = i ∧ (∀ b ∈ bl, b.length = 1) ∧ H' D = some (.lst ((bl.map bs).map V.str))) ⟨Same.new (Same.refl H1) hD, [], rfl, (fun b hb => by cases hb), upd_same⟩ ?_ ?_
      · rintro i H' hi ⟨s2, bl, hbl, hb1, hd'⟩
        obtain ⟨d, h2⟩ : ∃ d, ds[2 + i]? = some d := ⟨ds[2 + i]'(by omega), List.getElem?_eq_getElem (by omega)⟩
        refine ⟨rfl, _, rfl, _, rfl, _, _, rfl, rfl, p, _, ((2 + i : Nat) : Int), vn d, rfl, congrArg V.int (by omega), SqL.of (s2 _ _ hp1), lit_at h2, .inl ⟨_, rfl, _, _, rfl, rfl, (by show (0 : Int) < 2; decide), ((d % 2 : Nat) : Int), congrArg (fun z => [V.int z]) (by omega), log_bit d, _, hd', ?_, ?_, bl ++ [[decide (d % 2 = 1)]], by rw [List.length_append, hbl]; rfl, snoc_one hb1, ?_⟩⟩
        · rw [List.length_map, List.length_map]; exact line_lt (by omega)
        · intro b o e
          rw [upd_ne (ne_of_none e hD)]
          exact s2 b o e
        · rw [upd_same, str_bit, List.map_append, List.map_append]
          rfl
      · rintro H' ⟨s2, bl, hbl, hb1, hd'⟩
        have e0 : (("" : Str)).length = 0 := by decide +kernel
        have lf := ones_len hb1
        refine ⟨_, D, bl.map bs, rfl, rfl, .inl (SqL.of hd'), ?_, ?_⟩
        · rw [sum_lens, e0, lf]; omega
        · rw [join_bs]
          have l1 : (("1" : Str)).length = 1 := by decide +kernel
          refine ⟨_, _, rfl, rfl, ?_, _, _, rfl, rfl, ?_, ?_⟩
          · rw [bs_length, l1, lf]; exact line_pos (by omega)
          · rw [← bs_1, ← bs_append, bs_length, bs_length, List.length_append, lf]
            exact line_pos (by simp only [List.length_cons, List.length_nil]; omega)
          · rw [← bs_1, ← bs_append, ← bs_append]
            refine k _ H' ⟨rfl, by rw [List.getLast?_append]; rfl, ?_, ?_⟩ (s0.trans s2)
            · simp only [List.length_append, List.length_cons, List.length_nil]; omega
            · simp only [List.length_append, List.length_cons, List.length_nil, lf]; omega

theorem scLet : FnScope ["_law_cell_here", "_law_most", "_law_draws_here", "_law_k"] ["_law_cell_here", "_law_most"] (defScope sLet) := ⟨rfl, rfl, rfl, by decide +kernel, rfl, by decide +kernel, by decide +kernel⟩
theorem ok_let {f : Addr} {fd : FuncData} (D : Def K mg "_law_letter" sLet ["_law_cell_here", "_law_most"] f fd) (cD : Cal P w K mg base CX0 1 "_law_draws" spDr) (gR : mg "range" = none) (gI : mg "int" = none) (gT : mg "tuple" = none) :
    FnOk P w K mg base CX0 2 f fd ["_law_cell_here", "_law_most"] spLe := by
  refine D.fn.ok scLet (fun vs H Q E h => ?_) (fun cdv A outer s H vs Q E hr h => ?_)
  · obtain ⟨c, m, rfl, _⟩ := h
    rfl
  · obtain ⟨c, m, rfl, hm10, k⟩ := h
    refine ⟨_, pss_cons (ps_set (i := 2) scLet.nd rfl (Or.inr rfl) (pe_c cD hr pass0 (pa_cons (pv 0) (pa_cons (pe_op op_add (pv 1) pe_int) pa_nil))))
      (pss_one (ps_ret (pe_callTy call_tuple_of (by rfl) gT (by decide +kernel) (pa_cons (pe_lc (own := [("_law_k", 3)]) (g := gName 3) (tt := tYes) rfl scLet.nd
        (pi_range1 (by rfl) gR (pa_cons (pe_op op_mod (pe_callTy call_int1 (by rfl) gI (by decide +kernel) (pa_cons (pe_ix ix_list (pv 2) (pv 1) (fun _ _ => rfl)) pa_nil)) (pe_op op_add (pv 1) pe_int)) pa_nil))
        (blkOk_by (N := ["_law_cell_here", "_law_most", "_law_draws_here", "_law_k"]) (sc := defScope sLet) (by decide +kernel))
        (fun _ _ _ _ _ => pg_name (i := 3) scLet.nd rfl (Or.inl rfl)) (fun _ _ _ _ _ => pts_nil)
        (fun _ _ _ _ _ => pe_op op_mod (pe_callTy call_int1 (by rfl) gI (by decide +kernel) (pa_cons (pe_ix (show IxR _ (rIxL K) from ix_list) (pv 2) (pv 3) (fun _ _ => rfl)) pa_nil)) pe_int)) pa_nil)))), ?_⟩
    refine ⟨_, rfl, _, rfl, _, _, rfl, rfl, c, m + 1, congrArg (fun z => [V.int c, V.int z]) (by omega), by omega, fun ds p H1 hl hd s1 hp hp1 => ?_⟩
    obtain ⟨dm, hm⟩ : ∃ d, ds[m]? = some d := ⟨ds[m]'(by omega), List.getElem?_eq_getElem (by omega)⟩
    refine ⟨_, rfl, _, rfl, p, _, _, _, rfl, rfl, SqL.of hp1, lit_at hm, .inl ⟨_, rfl, _, rfl, _, _, rfl, rfl, _, _, rfl, rfl, (by show (0 : Int) < (m : Int) + 1; omega), ?_⟩⟩
    have hlt := Nat.mod_lt dm (show 0 < m + 1 by omega)
    refine ⟨((dm % (m + 1) : Nat) : Int), congrArg (fun z => [V.int z]) (by rw [Int.natCast_emod]; rfl), by omega, by omega, fun D hD => ?_⟩
    rw [Int.toNat_natCast]
    refine lc_range (lo := 0) (n := dm % (m + 1)) (fun i H' => Same H1 H' ∧ ∃ x : List Nat, x.length = i ∧ (∀ y ∈ x, y < 256) ∧ H' D = some (.lst (x.map vn))) ⟨Same.new (Same.refl H1) hD, [], rfl, (fun b hb => by cases hb), upd_same⟩ ?_ ?_
    · rintro i H' hi ⟨s2, x, hx, hx1, hd'⟩
      obtain ⟨d, h2⟩ : ∃ d, ds[i]? = some d := ⟨ds[i]'(by omega), List.getElem?_eq_getElem (by omega)⟩
      have hmd := Nat.mod_lt d (show 0 < 256 by decide)
      refine ⟨rfl, _, rfl, _, rfl, p, _, (i : Int), vn d, rfl, congrArg V.int (by omega), SqL.of (s2 _ _ hp1), lit_at h2, .inl ⟨_, rfl, _, _, rfl, rfl, (by show (0 : Int) < 256; decide), _, hd', ?_, ?_, x ++ [d % 256], by rw [List.length_append, hx]; rfl, snoc_lt hx1 hmd, ?_⟩⟩
      · rw [List.length_map]; exact line_lt (by omega)
      · intro b o e
        rw [upd_ne (ne_of_none e hD)]
        exact s2 b o e
      · rw [upd_same, List.map_append]
        rfl
    · rintro H' ⟨s2, x, hx, hx1, hd'⟩
      refine ⟨D, _, rfl, .inl ⟨SqL.of hd', fun t ht => ?_⟩⟩
      have hDn : H D = none := by
        cases e : H D with
        | none => rfl
        | some o => rw [s1 _ _ e] at hD; cases hD
      have s3 : Same H (upd H' t (.tup (x.map vn))) := Same.new (s1.trans s2) ht
      refine k x t _ (by omega) hx1 s3 ?_ upd_same
      cases e : H t with
      | none => rfl
      | some o => rw [s2 _ _ (s1 _ _ e)] at ht; cases ht
end
end Tk
end

section
set_option Elab.async false
set_option maxRecDepth 100000
set_option maxHeartbeats 4000000
set_option linter.unusedVariables false
/-! The law's model in the heap. -/
namespace Tk
open PySem PySem.Spec PyProof.Rows L2
structure MA where
  dm : Addr
  lL : Addr
  lT : Addr
  lA : Addr
  lB : Addr
  lS : Addr
def MA.all (M : MA) : List Addr := [M.lL, M.lT, M.lA, M.lB, M.lS]
def mdl (w : Nat) (g : Bits) (M : MA) (k : Nat) : List (Key × V) :=
  [(.inr "window", vn w), (.inr "generator", vb g), (.inr "letters", .ref M.lL), (.inr "taken", .ref M.lT), (.inr "known", vn k), (.inr "there", .ref M.lA), (.inr "back", .ref M.lB), (.inr "spoilt", .ref M.lS)]
def mks : List Str := ["window", "generator", "letters", "taken", "known", "there", "back", "spoilt"]
theorem mks_nd : mks.Nodup := by decide +kernel
theorem mdl_keys (w : Nat) (g : Bits) (M : MA) (k : Nat) : (mdl w g M k).map (·.1) = mks.map Sum.inr := rfl
theorem inr_nd : ∀ {l : List Str}, l.Nodup → (l.map (Sum.inr : Str → Key)).Nodup
  | [], _ => .nil
  | a :: l, h => by
    obtain ⟨h1, h2⟩ := List.nodup_cons.mp h
    refine List.nodup_cons.mpr ⟨fun z => ?_, inr_nd h2⟩
    obtain ⟨b, hb, e⟩ := List.mem_map.mp z
    injection e with e
    rw [e] at hb
    exact h1 hb
theorem valV_nd : ∀ {kvs : List (Key × V)} {k : Key} {v : V}, (kvs.map (·.1)).Nodup → (k, v) ∈ kvs → valV kvs k = some v
  | [], _, _, _, h => by cases h
  | p :: r, k, v, nd, h => by
    obtain ⟨n1, n2⟩ := List.nodup_cons.mp (show (p.1 :: r.map (·.1)).Nodup from nd)
    rcases List.mem_cons.mp h with e | h
    · rw [← e]; exact valV_pos rfl
    · have hk : ¬ p.1 = k := fun e => n1 (by rw [e]; exact List.mem_map.mpr ⟨(k, v), h, rfl⟩)
      rw [valV_neg hk]
      exact valV_nd n2 h
theorem putK_nd {l1 l2 : List (Key × V)} {k : Key} {x v : V} (nd : ((l1 ++ (k, x) :: l2).map (·.1)).Nodup) : putK (l1 ++ (k, x) :: l2) k v = l1 ++ (k, v) :: l2 := by
  have e := valV_nd nd (k := k) (v := x) (by simp)
  unfold putK
  rw [if_pos (by rw [valV_any, e]; rfl)]
  rw [List.map_append, List.map_cons, List.nodup_append] at nd
  obtain ⟨n1, n2, n3⟩ := nd
  obtain ⟨n4, n5⟩ := List.nodup_cons.mp n2
  have idm : ∀ l : List (Key × V), ¬ k ∈ l.map (·.1) → (l.map fun e => if e.1 = k then (e.1, v) else e) = l := by
    intro l
    induction l with
    | nil => intro _; rfl
    | cons p r ih =>
      intro h
      have h' : ¬ k ∈ p.1 :: r.map (·.1) := h
      rw [List.map_cons, if_neg (fun e => h' (by rw [← e]; exact List.mem_cons_self ..)), ih fun z => h' (List.mem_cons_of_mem _ z)]
  have m1 : ¬ k ∈ l1.map (·.1) := fun z => n3 _ z _ (List.mem_cons_self ..) rfl
  have i1 := idm l1 m1
  have i2 := idm l2 n4
  rw [List.map_append, List.map_cons, if_pos rfl]
  first
    | rw [i1, i2]
    | exact congr (congrArg HAppend.hAppend i1) (congrArg (List.cons (k, v)) i2)
section
variable {w : Nat} {g : Bits} {M : MA} {k : Nat} {H : Hp}
theorem mdl_nd : ((mdl w g M k).map (·.1)).Nodup := by rw [mdl_keys]; exact inr_nd mks_nd
theorem mdl_get {x : Str} {v : V} (h : H M.dm = some (.dK (mdl w g M k))) (hm : ((Sum.inr x : Key), v) ∈ mdl w g M k) : DGet H M.dm (.str x) (some v) := by
  have := DGet.k (k := Sum.inr x) h
  rwa [valV_nd mdl_nd hm] at this
theorem mg_w (h : H M.dm = some (.dK (mdl w g M k))) : DGet H M.dm (.str "window") (some (vn w)) := mdl_get h (by simp [mdl])
theorem mg_g (h : H M.dm = some (.dK (mdl w g M k))) : DGet H M.dm (.str "generator") (some (vb g)) := mdl_get h (by simp [mdl])
theorem mg_l (h : H M.dm = some (.dK (mdl w g M k))) : DGet H M.dm (.str "letters") (some (.ref M.lL)) := mdl_get h (by simp [mdl])
theorem mg_t (h : H M.dm = some (.dK (mdl w g M k))) : DGet H M.dm (.str "taken") (some (.ref M.lT)) := mdl_get h (by simp [mdl])
theorem mg_k (h : H M.dm = some (.dK (mdl w g M k))) : DGet H M.dm (.str "known") (some (vn k)) := mdl_get h (by simp [mdl])
theorem mg_s (h : H M.dm = some (.dK (mdl w g M k))) : DGet H M.dm (.str "spoilt") (some (.ref M.lS)) := mdl_get h (by simp [mdl])
theorem mg_A (h : H M.dm = some (.dK (mdl w g M k))) : DGet H M.dm (.str "there") (some (.ref M.lA)) := mdl_get h (by simp [mdl])
theorem mg_B (h : H M.dm = some (.dK (mdl w g M k))) : DGet H M.dm (.str "back") (some (.ref M.lB)) := mdl_get h (by simp [mdl])
theorem mg_line (h : H M.dm = some (.dK (mdl w g M k))) (t : Bool) : DGet H M.dm (.str (ws t)) (some (.ref (sel t M.lA M.lB))) := by
  cases t with
  | true => exact mg_A h
  | false => exact mg_B h
def MA.setA (M : MA) (t : Bool) (l : Addr) : MA := { M with lA := if t = true then l else M.lA, lB := if t = true then M.lB else l }
theorem put_A (t : Bool) (l : Addr) : putK (mdl w g M k) (Sum.inr (ws t)) (.ref l) = mdl w g (M.setA t l) k := by
  have nd := mdl_nd (w := w) (g := g) (M := M) (k := k)
  cases t with
  | true => exact putK_nd (l1 := [(.inr "window", vn w), (.inr "generator", vb g), (.inr "letters", .ref M.lL), (.inr "taken", .ref M.lT), (.inr "known", vn k)]) (l2 := [(.inr "back", .ref M.lB), (.inr "spoilt", .ref M.lS)]) nd
  | false => exact putK_nd (l1 := [(.inr "window", vn w), (.inr "generator", vb g), (.inr "letters", .ref M.lL), (.inr "taken", .ref M.lT), (.inr "known", vn k), (.inr "there", .ref M.lA)]) (l2 := [(.inr "spoilt", .ref M.lS)]) nd
theorem put_L (l : Addr) : putK (mdl w g M k) (Sum.inr "letters") (.ref l) = mdl w g { M with lL := l } k :=
  putK_nd (l1 := [(.inr "window", vn w), (.inr "generator", vb g)]) (l2 := [(.inr "taken", .ref M.lT), (.inr "known", vn k), (.inr "there", .ref M.lA), (.inr "back", .ref M.lB), (.inr "spoilt", .ref M.lS)]) (mdl_nd (w := w) (g := g) (M := M) (k := k))
theorem put_T (l : Addr) : putK (mdl w g M k) (Sum.inr "taken") (.ref l) = mdl w g { M with lT := l } k :=
  putK_nd (l1 := [(.inr "window", vn w), (.inr "generator", vb g), (.inr "letters", .ref M.lL)]) (l2 := [(.inr "known", vn k), (.inr "there", .ref M.lA), (.inr "back", .ref M.lB), (.inr "spoilt", .ref M.lS)]) (mdl_nd (w := w) (g := g) (M := M) (k := k))
theorem put_K (n : Nat) : putK (mdl w g M k) (Sum.inr "known") (vn n) = mdl w g M n :=
  putK_nd (l1 := [(.inr "window", vn w), (.inr "generator", vb g), (.inr "letters", .ref M.lL), (.inr "taken", .ref M.lT)]) (l2 := [(.inr "there", .ref M.lA), (.inr "back", .ref M.lB), (.inr "spoilt", .ref M.lS)]) (mdl_nd (w := w) (g := g) (M := M) (k := k))
theorem put_S (l : Addr) : putK (mdl w g M k) (Sum.inr "spoilt") (.ref l) = mdl w g { M with lS := l } k :=
  putK_nd (l1 := [(.inr "window", vn w), (.inr "generator", vb g), (.inr "letters", .ref M.lL), (.inr "taken", .ref M.lT), (.inr "known", vn k), (.inr "there", .ref M.lA), (.inr "back", .ref M.lB)]) (l2 := []) (mdl_nd (w := w) (g := g) (M := M) (k := k))
end
/-- the model at M -/
structure MAt (w : Nat) (g : Bits) (H : Hp) (M : MA) (s : St) (sp : List Bits) : Prop where
  d : H M.dm = some (.dK (mdl w g M s.known))
  ls : ∃ as, Lts H M.lL as s.letters
  tk : ∃ as, Lts H M.lT as s.taken
  th : H M.lA = some (.lst (s.there.map vb))
  bk : H M.lB = some (.lst (s.back.map vb))
  sp : H M.lS = some (.lst (sp.map vb))
/-- what a step of the model leaves -/
structure MStp (w : Nat) (g : Bits) (H : Hp) (M : MA) (H' : Hp) (M' : MA) (s' : St) (sp' : List Bits) : Prop where
  ok : MAt w g H' M' s' sp'
  kp : Kp [M.dm] H H'
  dm : M'.dm = M.dm
  new : ∀ b ∈ M'.all, b ∈ M.all ∨ H b = none
section
variable {w : Nat} {g : Bits} {H H1 H2 : Hp} {M M1 M2 : MA} {s s1 s2 : St} {sp sp1 sp2 : List Bits}
theorem MAt.line (T : MAt w g H M s sp) (t : Bool) : H (sel t M.lA M.lB) = some (.lst ((line s t).map vb)) := by
  cases t with
  | true => exact T.th
  | false => exact T.bk
theorem Lts.mono {l : Addr} {as : List Addr} {ls : List (List Nat)} (h : Lts H l as ls) (k : Kp [M.dm] H H1) (hd : l ≠ M.dm) : Lts H1 l as ls := ⟨k.keep _ _ h.1 (by simpa using hd), h.2.mono k.tups⟩
/-- the dict is written over -/
theorem MAt.put {kvs : List (Key × V)} (h : H M.dm = some (.dK kvs)) (ls : ∃ as, Lts H M1.lL as s1.letters) (tk : ∃ as, Lts H M1.lT as s1.taken) (th : H M1.lA = some (.lst (s1.there.map vb))) (bk : H M1.lB = some (.lst (s1.back.map vb)))
    (hsp : H M1.lS = some (.lst (sp1.map vb))) (e : M1.dm = M.dm) : MAt w g (upd H M.dm (.dK (mdl w g M1 s1.known))) M1 s1 sp1 := by
  have kp := (Kp.refl [M.dm] H).put (a := M.dm) (o := .dK (mdl w g M1 s1.known)) (by simp) (not_tup_dk h)
  obtain ⟨as, hls⟩ := ls
  obtain ⟨as', htk⟩ := tk
  have q : ∀ {l : Addr} {xs : List V}, H l = some (.lst xs) → upd H M.dm (.dK (mdl w g M1 s1.known)) l = some (.lst xs) := fun hl => (upd_ne (lst_ne_dk hl h)).trans hl
  exact ⟨by rw [e]; exact upd_same, ⟨as, hls.mono kp (lst_ne_dk hls.1 h)⟩, ⟨as', htk.mono kp (lst_ne_dk htk.1 h)⟩, q th, q bk, q hsp⟩
theorem MStp.refl (T : MAt w g H M s sp) : MStp w g H M H M s sp := ⟨T, Kp.refl _ _, rfl, fun b h => .inl h⟩
theorem MStp.trans (x : MStp w g H M H1 M1 s1 sp1) (y : MStp w g H1 M1 H2 M2 s2 sp2) : MStp w g H M H2 M2 s2 sp2 := by
  refine ⟨y.ok, x.kp.trans (by rw [← x.dm]; exact y.kp), y.dm.trans x.dm, fun b hb => ?_⟩
  rcases y.new b hb with z | z
  · exact x.new b z
  · refine .inr ?_
    cases e : H b with
    | none => rfl
    | some o =>
      by_cases c : b = M.dm
      · obtain h := x.ok.d
        rw [x.dm, ← c, z] at h
        cases h
      · have := x.kp.keep b o e (by simpa using c)
        rw [z] at this; cases this
theorem MAt.same (T : MAt w g H M s sp) (h : Same H H1) : MAt w g H1 M s sp := by
  obtain ⟨as, hls⟩ := T.ls
  obtain ⟨as', htk⟩ := T.tk
  exact ⟨h _ _ T.d, ⟨as, h _ _ hls.1, hls.2.mono fun b _ e => h b _ e⟩, ⟨as', h _ _ htk.1, htk.2.mono fun b _ e => h b _ e⟩, h _ _ T.th, h _ _ T.bk, h _ _ T.sp⟩
theorem MStp.same (x : MStp w g H M H1 M1 s1 sp1) (h : Same H1 H2) : MStp w g H M H2 M1 s1 sp1 := ⟨x.ok.same h, x.kp.trans (Kp.same h), x.dm, x.new⟩
/-- a line gets another list -/
theorem MAt.setA (T : MAt w g H M s sp) (t : Bool) {l : Addr} {bl : List Bits} (hl : H l = some (.lst (bl.map vb))) : MAt w g (upd H M.dm (.dK (mdl w g (M.setA t l) s.known))) (M.setA t l) (setLine s t bl) sp := by
  cases t with
  | true => exact MAt.put (M1 := M.setA true l) (s1 := setLine s true bl) T.d T.ls T.tk hl T.bk T.sp rfl
  | false => exact MAt.put (M1 := M.setA false l) (s1 := setLine s false bl) T.d T.ls T.tk T.th hl T.sp rfl
theorem setA_new {t : Bool} {l : Addr} (h : l ∈ M.all ∨ H l = none) : ∀ b ∈ (M.setA t l).all, b ∈ M.all ∨ H b = none := by
  intro b hb
  cases t with
  | true =>
    simp only [MA.all, MA.setA, if_true, List.mem_cons, List.not_mem_nil, or_false] at hb
    rcases hb with e | e | e | e | e
    · exact .inl (by rw [e]; simp [MA.all])
    · exact .inl (by rw [e]; simp [MA.all])
    · rw [e]; exact h
    · exact .inl (by rw [e]; simp [MA.all])
    · exact .inl (by rw [e]; simp [MA.all])
  | false =>
    simp only [MA.all, MA.setA, Bool.false_eq_true, if_false, List.mem_cons, List.not_mem_nil, or_false] at hb
    rcases hb with e | e | e | e | e
    · exact .inl (by rw [e]; simp [MA.all])
    · exact .inl (by rw [e]; simp [MA.all])
    · exact .inl (by rw [e]; simp [MA.all])
    · rw [e]; exact h
    · exact .inl (by rw [e]; simp [MA.all])
theorem MAt.kp (T : MAt w g H M s sp) {o : HO} : Kp [M.dm] H (upd H M.dm o) := (Kp.refl [M.dm] H).put (by simp) (not_tup_dk T.d)
/-- a line gets another list, from an earlier heap -/
theorem MAt.lineStp (T : MAt w g H M s sp) (x : Same H H1) (t : Bool) {l : Addr} {bl : List Bits} (hl : H1 l = some (.lst (bl.map vb))) (hn : l ∈ M.all ∨ H l = none) :
    MStp w g H M (upd H1 M.dm (.dK (mdl w g (M.setA t l) s.known))) (M.setA t l) (setLine s t bl) sp :=
  ⟨(T.same x).setA t hl, (Kp.same x).trans (T.same x).kp, rfl, setA_new hn⟩
end

abbrev sPut : Stmt := top_ 30
def spPu : Sp := fun vs H Q _ => ∃ (a : Addr) (l : List Bits) (q : Bits), vs = [.ref a, vb q] ∧ H a = some (.lst (l.map vb)) ∧ l.length ≤ 1000 ∧ ∀ p H', Same H H' → H' p = some (.lst ((put l q).map vb)) → (p = a ∨ H p = none) → Q (.ref p) H'
section
variable {P : Program} {w : World} {K : PySem.W.Frag} {mg : Str → Option Value} {base : Heap}
theorem scPut : FnScope ["_law_line", "_law_payload"] ["_law_line", "_law_payload"] (defScope sPut) := ⟨rfl, rfl, rfl, by decide +kernel, rfl, by decide +kernel, by decide +kernel⟩
theorem ok_put {f : Addr} {fd : FuncData} (D : Def K mg "_law_put" sPut ["_law_line", "_law_payload"] f fd) (gL : mg "len" = none) : FnOk P w K mg base CX0 1 f fd ["_law_line", "_law_payload"] spPu := by
  refine D.fn.ok scPut (fun vs H Q E h => ?_) (fun cdv A outer s H vs Q E hr h => ?_)
  · obtain ⟨a, l, q, rfl, _⟩ := h
    rfl
  · obtain ⟨a, l, q, rfl, hl, hlen, k⟩ := h
    refine ⟨_, pss_one (ps_ret (pe_ifExp (pt_cmpR op_lt (pe_callB call_len_seq (by rfl) gL boot_len (pa_cons (pv 0) pa_nil)) pe_int (nomark _)) (pe_op op_cat (pv 0) (pe_lst (pa_cons (pv 1) pa_nil))) (pv 0))), ?_⟩
    refine ⟨_, rfl, a, _, rfl, .inl (SqL.of hl), _, _, rfl, rfl, _, rfl, ?_⟩
    rw [List.length_map]
    by_cases c : l.length < 40
    · rw [decide_eq_true (by omega)]
      refine iteT ?_
      refine ⟨_, rfl, _, rfl, line_pos (by show 1 ≤ 100000; decide), fun p hp => ?_⟩
      have n1 := ne_of_none hl hp
      refine ⟨a, p, _, _, rfl, rfl, by rw [upd_ne n1]; exact hl, upd_same, ?_, fun r hr' => ?_⟩
      · rw [List.length_map]; exact line_pos (by simp only [List.length_cons, List.length_nil]; omega)
      · have e : put l q = l ++ [q] := by unfold put; rw [if_pos c]
        have nrp : r ≠ p := fun z => by rw [z, upd_same] at hr'; cases hr'
        refine k r _ (Same.new (Same.new (Same.refl H) hp) hr') ?_ (.inr (by rw [upd_ne nrp] at hr'; exact hr'))
        rw [upd_same, e, List.map_append]
        rfl
    · rw [decide_eq_false (by omega)]
      refine iteF ?_
      have e : put l q = l := by unfold put; rw [if_neg c]
      exact ⟨_, rfl, k a H (Same.refl H) (by rw [e]; exact hl) (.inl rfl)⟩
end
end Tk
end

section
set_option Elab.async false
set_option maxRecDepth 100000
set_option maxHeartbeats 4000000
set_option linter.unusedVariables false
/-! The law's model: delivered, sent. -/
namespace Tk
open PySem PySem.Spec PyProof.Rows L2
abbrev sDel : Stmt := top_ 31
abbrev sSent : Stmt := top_ 32
def spDl : Sp := fun vs H Q _ => ∃ (M : MA) (s : St) (sp : List Bits) (w : Nat) (g : Bits) (t : Bool), vs = [.ref M.dm, .str (ws t)] ∧ MAt w g H M s sp ∧ Gen g ∧ w ≤ 7 ∧ s.known ≤ s.letters.length ∧ s.letters.length ≤ 1000 ∧ s.taken.length ≤ 900 ∧ s.back.length ≤ 1000 ∧ (∀ b ∈ line s t, b.length ≤ 800) ∧ line s t ≠ [] ∧
  ∀ H' M', MStp w g H M H' M' (if t = true then delT w g s else delB w g s) sp → Q .non H'
def spMs : Sp := fun vs H Q _ => ∃ (M : MA) (s : St) (sp : List Bits) (w : Nat) (g : Bits), vs = [.ref M.dm] ∧ MAt w g H M s sp ∧ Gen g ∧ w ≤ 7 ∧ s.known ≤ s.letters.length ∧ s.letters.length ≤ 1000 ∧ (∀ l ∈ s.letters, l.length ≤ 4 ∧ ∀ x ∈ l, x < 256) ∧ s.there.length ≤ 40 ∧
  ∀ H' M', MStp w g H M H' M' (send w g s) sp → Q (vn (top w s - s.known)) H'
section
variable {P : Program} {w : World} {K : PySem.W.Frag} {mg : Str → Option Value} {base : Heap}
theorem scSent : FnScope ["_law_model", "_law_first", "_law_last", "_law_at", "_law_payload"] ["_law_model"] (defScope sSent) := ⟨rfl, rfl, rfl, by decide +kernel, rfl, by decide +kernel, by decide +kernel⟩
theorem puts40 : ∀ (ps l : List Bits), l.length ≤ 40 → (ps.foldl put l).length ≤ 40
  | [], l, h => h
  | p :: ps, l, h => puts40 ps (put l p) (by
    unfold put
    split
    · rw [List.length_append]; simp only [List.length_cons, List.length_nil]; omega
    · exact h)
theorem ok_sent {f : Addr} {fd : FuncData} (D : Def K mg "_law_sent" sSent ["_law_model"] f fd) (cP : Cal P w K mg base CX0 4 "pack" (spPack K)) (cU : Cal P w K mg base CX0 1 "_law_put" spPu) (gL : mg "len" = none) (gR : mg "range" = none) (gM : mg "min" = none) (gLi : mg "list" = none) :
    FnOk P w K mg base CX0 5 f fd ["_law_model"] spMs := by
  refine D.fn.ok scSent (fun vs H Q E h => ?_) (fun cdv A outer s H vs Q E hr h => ?_)
  · obtain ⟨M, s, sp, w, g, rfl, _⟩ := h
    rfl
  · obtain ⟨M, st, sp, w, g, rfl, TM, hg, hw, hk, hlen, hby, h40, k⟩ := h
    refine ⟨_, pss_cons (ps_set (i := 1) scSent.nd rfl (Or.inl rfl) (pe_dget (hu_of hr) (pv 0) pe_str (fun _ _ => rfl)))
      (pss_cons (ps_set (i := 2) scSent.nd rfl (Or.inl rfl) (pe_callB (call_min2 rfl) (by rfl) gM (by decide +kernel) (pa_cons (pe_op op_add (pv 1) (pe_dget (hu_of hr) (pv 0) pe_str (fun _ _ => rfl))) (pa_cons (pe_callB call_len_seq (by rfl) gL boot_len (pa_cons (pe_dget (hu_of hr) (pv 0) pe_str (fun _ _ => rfl)) pa_nil)) pa_nil))))
      (pss_cons (ps_for PassesOwn.never rfl (pi_range2 (by rfl) gR (pa_cons (pv 1) (pa_cons (pv 2) pa_nil))) (pg_name (i := 3) scSent.nd rfl (Or.inl rfl))
        (pss_cons (ps_set (i := 4) scSent.nd rfl (Or.inl rfl) (pe_c cP hr pass0 (pa_cons (pe_dget (hu_of hr) (pv 0) pe_str (fun _ _ => rfl)) (pa_cons (pe_op op_cat (pe_lst (pa_cons (pe_op op_mod (pv 3) (pe_op op_add (pe_dget (hu_of hr) (pv 0) pe_str (fun _ _ => rfl)) pe_int)) pa_nil))
            (pe_callTy call_list_of (by rfl) gLi (by decide +kernel) (pa_cons (pe_ix ix_list (pe_dget (hu_of hr) (pv 0) pe_str (fun _ _ => rfl)) (pv 3) (fun _ _ => rfl)) pa_nil))) pa_nil))))
        (pss_one (ps_dput (hu_of hr) (pv 0) pe_str (pe_c cU hr pass0 (pa_cons (pe_dget (hu_of hr) (pv 0) pe_str (fun _ _ => rfl)) (pa_cons (pv 4) pa_nil))) rfl))))
      (pss_one (ps_ret (pe_op op_sub (pv 2) (pv 1)))))), ?_⟩
    obtain ⟨as, hl, ht⟩ := TM.ls
    refine ⟨_, rfl, M.dm, _, rfl, mg_k TM.d, ?_⟩
    refine ⟨_, rfl, _, rfl, M.dm, _, rfl, mg_w TM.d, _, _, rfl, rfl, _, rfl, M.dm, _, rfl, mg_l TM.d, M.lL, _, rfl, .inl (SqL.of hl), _, _, rfl, ?_⟩
    have e : (if ((as.map V.ref).length : Int) < (st.known : Int) + (w : Int) then ((as.map V.ref).length : Int) else (st.known : Int) + (w : Int)) = ((top w st : Nat) : Int) := by
      rw [List.length_map, ht.1]
      unfold top
      split <;> omega
    rw [e]
    have etop : top w st = min (st.known + w) st.letters.length := rfl
    refine ⟨_, rfl, _, rfl, (st.known : Int), ((top w st : Nat) : Int), rfl, ⟨by omega, by omega, by omega, by omega⟩, ?_⟩
    have en : (((top w st : Nat) : Int) - (st.known : Int)).toNat = top w st - st.known := by omega
    rw [en]
    refine for_range (lo := (st.known : Int)) (n := top w st - st.known) (fun i σ H' => ∃ M', MStp w g H M H' M' { st with there := ((window w g st).take i).foldl put st.there } sp ∧ ∃ v3 v4 : Option V, σ = [some (.ref M.dm), some (vn st.known), some (vn (top w st)), v3, v4]) ⟨M, MStp.refl TM, none, none, rfl⟩ ?_ ?_
    · rintro i σ H' hi ⟨M', X, v3, v4, rfl⟩
      have T' := X.ok
      have hd := T'.d
      rw [← X.dm]
      obtain ⟨as', hl', ht'⟩ := T'.ls
      have e3 : (st.known : Int) + ((i : Nat) : Int) = ((st.known + i : Nat) : Int) := by omega
      rw [e3]
      have hat : st.known + i < st.letters.length := by omega
      obtain ⟨x, hx⟩ : ∃ x, st.letters[st.known + i]? = some x := ⟨st.letters[st.known + i], List.getElem?_eq_getElem hat⟩
      obtain ⟨b, hb, hbt⟩ := ht'.2 _ x hx
      obtain ⟨hx4, hx256⟩ := hby x (List.mem_of_getElem? hx)
      refine ⟨_, rfl, M'.dm, _, rfl, mg_g hd, _, rfl, _, rfl, M'.dm, _, rfl, mg_w hd, _, _, rfl, rfl, _, _, rfl, rfl, (by show (0 : Int) < (w : Int) + 1; omega), line_pos (by show 1 ≤ 100000; decide), fun p hp => ?_⟩
      have s1 := Same.new (Same.refl H') hp (o := .lst [V.int (((st.known + i : Nat) : Int) % ((w : Int) + 1))])
      refine ⟨_, rfl, M'.dm, _, rfl, mg_l (s1 _ _ hd), _, rfl, M'.lL, _, _, _, rfl, rfl, SqL.of (s1 _ _ hl'), atI_nat (v := V.ref b) (by rw [List.getElem?_map, hb]; rfl), b, _, rfl, .inr (SqT.of (s1 _ _ hbt)), fun q hq => ?_⟩
      have s2 := Same.new s1 hq (o := .lst (x.map vn))
      have npq : p ≠ q := ne_of_none upd_same hq
      refine ⟨p, q, _, _, rfl, rfl, (by rw [upd_ne npq]; exact upd_same), upd_same, ?_, fun r hr' => ?_⟩
      · show 1 + (x.map vn).length ≤ sizeLine
        rw [List.length_map]
        exact line_pos (by omega)
      have s3 := Same.new s2 hr' (o := .lst ([V.int (((st.known + i : Nat) : Int) % ((w : Int) + 1))] ++ x.map vn))
      have eg : st.letters.getD (st.known + i) [] = x := by simp [List.getD, hx]
      have ep : payl w g st.letters (st.known + i) = pack g ((st.known + i) % (w + 1) :: x) := by unfold payl; rw [eg]
      have hm := Nat.mod_lt (st.known + i) (show 0 < w + 1 by omega)
      refine ⟨g, r, (st.known + i) % (w + 1) :: x, rfl, hg, SqL.of ?_, by rw [List.length_cons]; omega, fun y hy => ?_, fun H2 s4 => ?_⟩
      · rw [upd_same]
        have em : ((st.known + i : Nat) : Int) % ((w : Int) + 1) = (((st.known + i) % (w + 1) : Nat) : Int) := by rw [Int.natCast_emod]; rfl
        show some (HO.lst ([V.int (((st.known + i : Nat) : Int) % ((w : Int) + 1))] ++ x.map vn)) = _
        rw [em]
        rfl
      · rcases List.mem_cons.mp hy with e | hy
        · rw [e]; omega
        · have := hx256 y hy; omega
      rw [← ep]
      have s5 := s3.trans s4
      have T2 := T'.same s5
      have hd2 := T2.d
      refine ⟨_, rfl, M'.dm, _, rfl, mg_A hd2, _, rfl, M'.lA, _, payl w g st.letters (st.known + i), rfl, T2.th, ?_, fun p2 H3 s6 hp2 hor => ?_⟩
      · have := puts40 ((window w g st).take i) st.there h40
        show (((window w g st).take i).foldl put st.there).length ≤ 1000
        omega
      have s7 := s5.trans s6
      have hor' : p2 ∈ M'.all ∨ H' p2 = none := by
        rcases hor with z | z
        · exact .inl (by rw [z]; simp [MA.all])
        · refine .inr ?_
          cases e : H' p2 with
          | none => rfl
          | some o => rw [s5 _ _ e] at z; cases z
      refine ⟨_, rfl, M'.dm, _, rfl, DPut.k (k := Sum.inr ("there" : Str)) (s7 _ _ hd) (line_lt (by show 8 ≤ 100000; decide)), ?_⟩
      have Y := T'.lineStp s7 true hp2 hor'
      rw [← put_A] at Y
      refine ⟨M'.setA true p2, ?_, _, _, rfl⟩
      have hw' : (window w g st)[i]? = some (payl w g st.letters (st.known + i)) := by
        unfold window
        rw [List.getElem?_map, List.getElem?_range' (by omega)]
        simp
      rw [take_next hw', List.foldl_append]
      exact X.trans Y
    · rintro σ H' ⟨M', X, v3, v4, rfl⟩
      refine ⟨_, rfl, _, rfl, _, _, rfl, rfl, ?_⟩
      have e1 : (window w g st).take (top w st - st.known) = window w g st := List.take_of_length_le (by unfold window; rw [List.length_map, List.length_range']; exact Nat.le_refl _)
      rw [e1] at X
      have e2 : V.int (((top w st : Nat) : Int) - (st.known : Int)) = vn (top w st - st.known) := congrArg V.int (by omega)
      show Q (V.int (((top w st : Nat) : Int) - (st.known : Int))) H'
      rw [e2]
      exact k H' M' X
end
end Tk
end

section
set_option Elab.async false
set_option maxRecDepth 100000
set_option maxHeartbeats 4000000
set_option linter.unusedVariables false
/-! The law's model: delivered. -/
namespace Tk
open PySem PySem.Spec PyProof.Rows L2
section
variable {P : Program} {w : World} {K : PySem.W.Frag} {mg : Str → Option Value} {base : Heap}
theorem scDel : FnScope ["_law_model", "_law_way", "_law_window", "_law_generator_here", "_law_payload", "_law_numbers", "_law_steps"] ["_law_model", "_law_way"] (defScope sDel) := ⟨rfl, rfl, rfl, by decide +kernel, rfl, by decide +kernel, by decide +kernel⟩
theorem ws_eq' (t : Bool) : decide (V.str (ws t) = V.str "there") = t := by
  cases t with
  | true => decide +kernel
  | false => decide +kernel
theorem ok_del {f : Addr} {fd : FuncData} (D : Def K mg "_law_delivered" sDel ["_law_model", "_law_way"] f fd) (cP : Cal P w K mg base CX0 4 "pack" (spPack K)) (cU : Cal P w K mg base CX0 5 "unpack" spUnpack) (cPu : Cal P w K mg base CX0 1 "_law_put" spPu) (gL : mg "len" = none) (gT : mg "tuple" = none) (gM : mg "min" = none) :
    FnOk P w K mg base CX0 6 f fd ["_law_model", "_law_way"] spDl := by
  refine D.fn.ok scDel (fun vs H Q E h => ?_) (fun cdv A outer s H vs Q E hr h => ?_)
  · obtain ⟨M, s, sp, w, g, t, rfl, _⟩ := h
    rfl
  · obtain ⟨M, st, sp, w, g, t, rfl, TM, hg, hw, hk, hll, htl, hback, hbl, hne, k⟩ := h
    refine ⟨_, pss_cons (ps_par (i := 2) (j := 3) (by rfl) scDel.nd rfl rfl (by decide) rfl rfl (pa_cons (pe_dget (hu_of hr) (pv 0) pe_str (fun _ _ => rfl)) (pa_cons (pe_dget (hu_of hr) (pv 0) pe_str (fun _ _ => rfl)) pa_nil)) (by rfl))
      (pss_cons (ps_set (i := 4) scDel.nd rfl (Or.inl rfl) (pe_ix ix_list (pe_dget (hu_of hr) (pv 0) (pv 1) (fun _ _ => rfl)) pe_int (fun _ _ => rfl)))
      (pss_cons (ps_dput (hu_of hr) (pv 0) (pv 1) (pe_slice sl_list (pe_dget (hu_of hr) (pv 0) (pv 1) (fun _ _ => rfl)) (po_some pe_int) po_none) rfl)
      (pss_cons (ps_set (i := 5) scDel.nd rfl (Or.inl rfl) (pe_c cU hr pass0 (pa_cons (pv 3) (pa_cons (pv 4) pa_nil))))
      (pss_cons (ps_if (PW.pt (pw_or (pt_cmpR op_isN (pv 5) pe_non (nomark _)) (pw_or (pt_cmpR op_eq (pe_callB call_len_seq (by rfl) gL boot_len (pa_cons (pv 5) pa_nil)) pe_int (nomark _)) (pw_or1 (pt_cmpR op_gt (pe_ix ix_list (pv 5) pe_int (fun _ _ => rfl)) (pv 2) (nomark _)))))) (pss_one ps_retN) pss_nil)
      (pss_one (ps_if (pt_cmpR op_eq (pv 1) pe_str (nomark _))
        (pss_cons (ps_if (pt_cmpR op_eq (pe_ix ix_list (pv 5) pe_int (fun _ _ => rfl)) (pe_op op_mod (pe_callB call_len_seq (by rfl) gL boot_len (pa_cons (pe_dget (hu_of hr) (pv 0) pe_str (fun _ _ => rfl)) pa_nil)) (pe_op op_add (pv 2) pe_int)) (nomark _))
            (pss_one (ps_dput (hu_of hr) (pv 0) pe_str (pe_op op_cat (pe_dget (hu_of hr) (pv 0) pe_str (fun _ _ => rfl)) (pe_lst (pa_cons (pe_callTy call_tuple_of (by rfl) gT (by decide +kernel) (pa_cons (pe_slice sl_list (pv 5) (po_some pe_int) po_none) pa_nil)) pa_nil))) rfl)) pss_nil)
        (pss_one (ps_dput (hu_of hr) (pv 0) pe_str (pe_c cPu hr pass0 (pa_cons (pe_dget (hu_of hr) (pv 0) pe_str (fun _ _ => rfl)) (pa_cons (pe_c cP hr pass0 (pa_cons (pv 3) (pa_cons (pe_lst (pa_cons (pe_op op_mod (pe_callB call_len_seq (by rfl) gL boot_len (pa_cons (pe_dget (hu_of hr) (pv 0) pe_str (fun _ _ => rfl)) pa_nil)) (pe_op op_add (pv 2) pe_int)) pa_nil)) pa_nil))) pa_nil))) rfl)))
        (pss_one (ps_if (pt_cmpR op_eq (pe_callB call_len_seq (by rfl) gL boot_len (pa_cons (pv 5) pa_nil)) pe_int (nomark _))
          (pss_cons (ps_set (i := 6) scDel.nd rfl (Or.inl rfl) (pe_op op_mod (pe_op op_sub (pe_ix ix_list (pv 5) pe_int (fun _ _ => rfl)) (pe_dget (hu_of hr) (pv 0) pe_str (fun _ _ => rfl))) (pe_op op_add (pv 2) pe_int)))
          (pss_one (ps_if (pt_cmpR op_le (pv 6) (pe_callB (call_min2 rfl) (by rfl) gM (by decide +kernel) (pa_cons (pv 2) (pa_cons (pe_op op_sub (pe_callB call_len_seq (by rfl) gL boot_len (pa_cons (pe_dget (hu_of hr) (pv 0) pe_str (fun _ _ => rfl)) pa_nil)) (pe_dget (hu_of hr) (pv 0) pe_str (fun _ _ => rfl))) pa_nil))) (nomark _))
            (pss_one (ps_dput (hu_of hr) (pv 0) pe_str (pe_op op_add (pe_dget (hu_of hr) (pv 0) pe_str (fun _ _ => rfl)) (pv 6)) rfl)) pss_nil))) pss_nil)))))))), ?_⟩
    obtain ⟨p, r, hpr⟩ : ∃ p r, line st t = p :: r := by
      cases e : line st t with
      | nil => exact absurd e hne
      | cons p r => exact ⟨p, r, rfl⟩
    have lp := hbl p (by rw [hpr]; exact List.mem_cons_self ..)
    have hl := TM.line t
    have hd := TM.d
    have l8 : ∀ {M2 : MA} {n : Nat}, (mdl w g M2 n).length < sizeLine := fun {M2 n} => line_lt (by show 8 ≤ 100000; decide)
    refine ⟨_, rfl, M.dm, _, rfl, mg_w hd, _, rfl, M.dm, _, rfl, mg_g hd, _, _, rfl, ?_⟩
    refine ⟨_, rfl, _, rfl, M.dm, _, rfl, mg_line hd t, _, _, _, vb p, rfl, rfl, SqL.of hl, atI_nat (j := 0) (by rw [List.getElem?_map, hpr]; rfl), ?_⟩
    refine ⟨_, rfl, _, rfl, M.dm, _, rfl, mg_line hd t, 1, rfl, _, _, rfl, SqL.of hl, fun q hq => ?_⟩
    have s1 := Same.new (Same.refl H) hq (o := .lst (cutV ((line st t).map vb) (some 1) none))
    refine ⟨_, rfl, _, rfl, M.dm, _, rfl, DPut.k (k := Sum.inr (ws t)) (s1 _ _ hd) l8, ?_⟩
    have hqr : upd H q (.lst (cutV ((line st t).map vb) (some 1) none)) q = some (.lst (r.map vb)) := by
      rw [upd_same, hpr, List.map_cons, cutV_tail]
    have X1 := TM.lineStp s1 t hqr (.inr hq)
    rw [put_A]
    generalize hH1 : upd (upd H q (.lst (cutV ((line st t).map vb) (some 1) none))) M.dm (.dK (mdl w g (M.setA t q) st.known)) = H1 at X1
    have T1 := X1.ok
    have ek : (setLine st t r).known = st.known := by cases t <;> rfl
    have quit : ∀ {H2 : Hp}, Same H1 H2 → (if t = true then delT w g st else delB w g st) = setLine st t r → Q .non H2 := fun {H2} s2 e => k H2 _ (by rw [e]; exact X1.same s2)
    have hTt : ∀ (e : t = true), st.there = p :: r := fun e => by rw [e] at hpr; exact hpr
    have hTb : ∀ (e : t = false), st.back = p :: r := fun e => by rw [e] at hpr; exact hpr
    have edT : ∀ {o}, hearT w g st.taken p = o → t = true → delT w g st = (match o with | none => { st with there := r } | some tk => { st with there := r, taken := tk, back := put st.back (ans w g tk) }) := fun {o} e et => by
      unfold delT
      rw [hTt et]
      show (match hearT w g st.taken p with | none => _ | some tk => _) = _
      rw [e]
    have edB : t = false → delB w g st = { st with back := r, known := hearS w g st p } := fun et => by
      unfold delB
      rw [hTb et]
    have stay : hearT w g st.taken p = none → hearS w g st p = st.known → (if t = true then delT w g st else delB w g st) = setLine st t r := fun e1 e2 => by
      cases t with
      | true => exact edT e1 rfl
      | false => exact (edB rfl).trans (by rw [e2]; rfl)
    refine ⟨_, rfl, _, rfl, g, p, rfl, hg, lp, fun e H2 s2 => ?_, fun ns e n H2 s2 nn hn => ?_⟩
    · refine ⟨_, rfl, rfl, _, rfl, iteT (iteT ?_)⟩
      exact quit s2 (stay (hearT_none e) (by unfold hearS; rw [e]))
    · refine ⟨_, rfl, rfl, _, rfl, iteF ?_⟩
      refine ⟨_, rfl, n, _, rfl, .inl (SqL.of hn), rfl, _, rfl, ?_⟩
      cases ns with
      | nil =>
        refine iteT (iteT ?_)
        exact quit s2 (stay (hearT_nil e) (by unfold hearS; rw [e]))
      | cons x ys =>
        have hz : decide (V.int ((((x :: ys).map vn).length : Nat) : Int) = V.int 0) = false := decide_eq_false (fun z => by
          injection z with z
          rw [List.length_map, List.length_cons] at z
          omega)
        show if decide (V.int ((((x :: ys).map vn).length : Nat) : Int) = V.int 0) = true then _ else _
        rw [hz]
        refine iteF ?_
        refine ⟨_, rfl, n, _, _, _, rfl, rfl, SqL.of hn, atI_nat (j := 0) rfl, _, rfl, _, _, rfl, rfl, _, rfl, ?_⟩
        have eT := hearT_cons (w := w) (tk := st.taken) e
        by_cases c1 : x ≤ w
        · rw [decide_eq_false (by omega)]
          rw [if_pos c1] at eT
          refine iteF ?_
          have T2 := T1.same s2
          have hd2 := T2.d
          obtain ⟨as, hlt, htt⟩ := T2.tk
          have etk : (setLine st t r).taken = st.taken := by cases t <;> rfl
          rw [etk] at htt
          rw [ek] at hd2
          refine ⟨_, rfl, rfl, _, rfl, ?_⟩
          rw [ws_eq']
          cases t with
          | true =>
            refine iteT ?_
            refine ⟨_, rfl, n, _, _, _, rfl, rfl, SqL.of hn, atI_nat (j := 0) rfl, _, rfl, (M.setA true q).dm, _, rfl, mg_t hd2, _, _, rfl, .inl (SqL.of hlt), _, rfl, _, _, rfl, rfl, _, _, rfl, rfl, (by show (0 : Int) < (w : Int) + 1; omega), rfl, _, rfl, ?_⟩
            have ed : decide (vn x = V.int (((as.map V.ref).length : Int) % ((w : Int) + 1))) = decide (x = st.taken.length % (w + 1)) := dec_vn x _ _ (by rw [List.length_map, htt.1]; exact mod_w _ _)
            show if decide (vn x = V.int (((as.map V.ref).length : Int) % ((w : Int) + 1))) = true then _ else _
            rw [ed]
            by_cases c3 : x = st.taken.length % (w + 1)
            · rw [decide_eq_true c3]
              rw [if_pos c3] at eT
              refine iteT ?_
              refine ⟨_, rfl, (M.setA true q).dm, _, rfl, mg_t hd2, _, rfl, _, rfl, n, _, rfl, SqL.of hn, fun q1 hq1 => ?_⟩
              have z1 := Same.new (Same.refl H2) hq1 (o := .lst (cutV (List.map vn (x :: ys)) (some 1) Option.none))
              refine ⟨q1, _, rfl, .inl ⟨SqL.of upd_same, fun u hu => ?_⟩⟩
              have z2 := Same.new z1 hu (o := .tup (cutV (List.map vn (x :: ys)) (some 1) Option.none))
              refine ⟨line_pos (by show 1 ≤ 100000; decide), fun q2 hq2 => ?_⟩
              have z3 := Same.new z2 hq2 (o := .lst [V.ref u])
              refine ⟨_, q2, _, _, rfl, rfl, z3 _ _ hlt, upd_same, ?_, fun q3 hq3 => ?_⟩
              · rw [List.length_map, htt.1]; exact line_pos (by simp only [List.length_cons, List.length_nil]; omega)
              have z4 := Same.new z3 hq3 (o := .lst (as.map V.ref ++ [V.ref u]))
              refine ⟨_, rfl, M.dm, _, rfl, DPut.k (k := Sum.inr ("taken" : Str)) (z4 _ _ hd2) l8, ?_⟩
              rw [put_T]
              have nuq2 : u ≠ q2 := ne_of_none upd_same hq2
              have nuq3 : u ≠ q3 := ne_of_none (by rw [upd_ne nuq2]; exact upd_same) hq3
              have X3 : MStp w g H M (upd (upd (upd (upd (upd H2 q1 (.lst (cutV (List.map vn (x :: ys)) (some 1) Option.none))) u (.tup (cutV (List.map vn (x :: ys)) (some 1) Option.none))) q2 (.lst [V.ref u])) q3 (.lst (as.map V.ref ++ [V.ref u]))) M.dm (.dK (mdl w g { M.setA true q with lT := q3 } st.known)))
                  { M.setA true q with lT := q3 } { st with there := r, taken := st.taken ++ [ys] } sp := by
                refine (X1.same s2).trans ?_
                have T4 := T2.same z4
                refine ⟨MAt.put (M := M.setA true q) (M1 := { M.setA true q with lT := q3 }) (s1 := { st with there := r, taken := st.taken ++ [ys] }) T4.d T4.ls ⟨as ++ [u], ?_, ?_⟩ T4.th T4.bk T4.sp rfl, (Kp.same z4).trans T4.kp, rfl, fun b hb => ?_⟩
                · rw [upd_same, List.map_append]; rfl
                · refine (htt.mono fun b _ e => z4 b _ e).snoc ?_
                  rw [upd_ne nuq3, upd_ne nuq2, upd_same, List.map_cons, cutV_tail]
                · simp only [MA.all, List.mem_cons, List.not_mem_nil, or_false] at hb
                  rcases hb with h | h | h | h | h
                  · exact .inl (by rw [h]; simp [MA.all])
                  · refine .inr ?_
                    rw [h]
                    cases e : H2 q3 with
                    | none => rfl
                    | some o => rw [z3 _ _ e] at hq3; cases hq3
                  · exact .inl (by rw [h]; simp [MA.all])
                  · exact .inl (by rw [h]; simp [MA.all])
                  · exact .inl (by rw [h]; simp [MA.all])
              generalize upd (upd (upd (upd (upd H2 q1 (.lst (cutV (List.map vn (x :: ys)) (some 1) Option.none))) u (.tup (cutV (List.map vn (x :: ys)) (some 1) Option.none))) q2 (.lst [V.ref u])) q3 (.lst (as.map V.ref ++ [V.ref u]))) M.dm (.dK (mdl w g { M.setA true q with lT := q3 } st.known)) = H3 at X3
              generalize hM3 : ({ M.setA true q with lT := q3 } : MA) = M3 at X3
              generalize htk : st.taken ++ [ys] = tk at X3 eT
              have T3 := X3.ok
              have hd3 := T3.d
              have em := congrArg V.ref X3.dm.symm
              obtain ⟨as3, hlt3, htt3⟩ := T3.tk
              have h1 : 1 ≤ sizeLine := line_pos (by decide)
              refine ⟨_, rfl, M3.dm, _, em, mg_B hd3, _, rfl, _, rfl, M3.dm, _, em, mg_t hd3, _, _, rfl, .inl (SqL.of hlt3), _, rfl, _, _, rfl, rfl, _, _, rfl, rfl, (by show (0 : Int) < (w : Int) + 1; omega), h1, fun p1 hp1 => ?_⟩
              have hmlt := Nat.mod_lt tk.length (show 0 < w + 1 by omega)
              refine ⟨g, p1, [tk.length % (w + 1)], rfl, hg, SqL.of ?_, (by show 1 ≤ 100; decide), (fun y hy => by rw [List.mem_singleton.mp hy]; omega), fun H4 s4 => ?_⟩
              · rw [upd_same]
                have e5 : (((as3.map V.ref).length : Nat) : Int) % ((w : Int) + 1) = ((tk.length % (w + 1) : Nat) : Int) := by
                  rw [List.length_map, htt3.1, Int.natCast_emod]
                  rfl
                show some (HO.lst [V.int ((((as3.map V.ref).length : Nat) : Int) % ((w : Int) + 1))]) = _
                rw [e5]
                rfl
              have s5 := (Same.new (Same.refl H3) hp1 (o := .lst [V.int ((((as3.map V.ref).length : Nat) : Int) % ((w : Int) + 1))])).trans s4
              refine ⟨M3.lB, st.back, ans w g tk, rfl, s5 _ _ T3.bk, hback, fun p2 H5 s6 hp2 hor => ?_⟩
              have s7 := s5.trans s6
              have hor' : p2 ∈ M3.all ∨ H3 p2 = none := by
                rcases hor with z | z
                · exact .inl (by rw [z]; simp [MA.all])
                · refine .inr ?_
                  cases e : H3 p2 with
                  | none => rfl
                  | some o => rw [s5 _ _ e] at z; cases z
              refine ⟨_, rfl, M3.dm, _, em, DPut.k (k := Sum.inr ("back" : Str)) (s7 _ _ hd3) l8, ?_⟩
              have Y := T3.lineStp s7 false hp2 hor'
              rw [← put_A] at Y
              have e8 := edT eT rfl
              exact k _ _ (by
                show MStp w g H M _ (M3.setA false p2) (delT w g st) sp
                rw [e8]
                exact X3.trans Y)
            · rw [decide_eq_false c3]
              rw [if_neg c3] at eT
              refine iteF ?_
              have X3 : MStp w g H M H2 (M.setA true q) { st with there := r, taken := st.taken } sp := X1.same s2
              generalize hM3 : M.setA true q = M3 at X3
              generalize htk : H2 = H3 at X3
              obtain ⟨tk, htk, eT'⟩ : ∃ tk, tk = st.taken ∧ hearT w g st.taken p = some tk := ⟨_, rfl, eT⟩
              rw [← htk] at X3
              have eT := eT'
              have htl : tk.length ≤ 900 := by rw [htk]; exact htl
              have T3 := X3.ok
              have hd3 := T3.d
              have em := congrArg V.ref X3.dm.symm
              obtain ⟨as3, hlt3, htt3⟩ := T3.tk
              have h1 : 1 ≤ sizeLine := line_pos (by decide)
              refine ⟨_, rfl, M3.dm, _, em, mg_B hd3, _, rfl, _, rfl, M3.dm, _, em, mg_t hd3, _, _, rfl, .inl (SqL.of hlt3), _, rfl, _, _, rfl, rfl, _, _, rfl, rfl, (by show (0 : Int) < (w : Int) + 1; omega), h1, fun p1 hp1 => ?_⟩
              have hmlt := Nat.mod_lt tk.length (show 0 < w + 1 by omega)
              refine ⟨g, p1, [tk.length % (w + 1)], rfl, hg, SqL.of ?_, (by show 1 ≤ 100; decide), (fun y hy => by rw [List.mem_singleton.mp hy]; omega), fun H4 s4 => ?_⟩
              · rw [upd_same]
                have e5 : (((as3.map V.ref).length : Nat) : Int) % ((w : Int) + 1) = ((tk.length % (w + 1) : Nat) : Int) := by
                  rw [List.length_map, htt3.1, Int.natCast_emod]
                  rfl
                show some (HO.lst [V.int ((((as3.map V.ref).length : Nat) : Int) % ((w : Int) + 1))]) = _
                rw [e5]
                rfl
              have s5 := (Same.new (Same.refl H3) hp1 (o := .lst [V.int ((((as3.map V.ref).length : Nat) : Int) % ((w : Int) + 1))])).trans s4
              refine ⟨M3.lB, st.back, ans w g tk, rfl, s5 _ _ T3.bk, hback, fun p2 H5 s6 hp2 hor => ?_⟩
              have s7 := s5.trans s6
              have hor' : p2 ∈ M3.all ∨ H3 p2 = none := by
                rcases hor with z | z
                · exact .inl (by rw [z]; simp [MA.all])
                · refine .inr ?_
                  cases e : H3 p2 with
                  | none => rfl
                  | some o => rw [s5 _ _ e] at z; cases z
              refine ⟨_, rfl, M3.dm, _, em, DPut.k (k := Sum.inr ("back" : Str)) (s7 _ _ hd3) l8, ?_⟩
              have Y := T3.lineStp s7 false hp2 hor'
              rw [← put_A] at Y
              have e8 := edT eT rfl
              exact k _ _ (by
                show MStp w g H M _ (M3.setA false p2) (delT w g st) sp
                rw [e8]
                exact X3.trans Y)
          | false =>
            refine iteF ?_
            have eb := edB rfl
            refine ⟨_, rfl, n, _, rfl, .inl (SqL.of hn), rfl, _, rfl, ?_⟩
            cases ys with
            | nil =>
              show if decide (V.int (1 : Int) = V.int 1) = true then _ else _
              rw [decide_eq_true rfl]
              refine iteT ?_
              obtain ⟨asl, hla, hlb⟩ := T2.ls
              have els : (setLine st false r).letters = st.letters := rfl
              rw [els] at hlb
              refine ⟨_, rfl, n, _, _, _, rfl, rfl, SqL.of hn, atI_nat (j := 0) rfl, _, rfl, (M.setA false q).dm, _, rfl, mg_k hd2, _, _, rfl, rfl, _, rfl, _, _, rfl, rfl, _, _, rfl, rfl, (by show (0 : Int) < (w : Int) + 1; omega), ?_⟩
              refine ⟨_, rfl, _, rfl, _, rfl, (M.setA false q).dm, _, rfl, mg_l hd2, _, _, rfl, .inl (SqL.of hla), _, rfl, (M.setA false q).dm, _, rfl, mg_k hd2, _, _, rfl, rfl, _, _, rfl, _, _, rfl, rfl, _, rfl, ?_⟩
              have e5 : ((x : Int) - (st.known : Int)) % ((w : Int) + 1) = (stepsOf w x st.known : Int) := stepsOf_int w x st.known
              have e6 : (if (((asl.map V.ref).length : Nat) : Int) - (st.known : Int) < (w : Int) then (((asl.map V.ref).length : Nat) : Int) - (st.known : Int) else (w : Int)) = ((top w st - st.known : Nat) : Int) := by
                rw [List.length_map, hlb.1]
                unfold top
                split <;> omega
              show if decide (((x : Int) - (st.known : Int)) % ((w : Int) + 1) ≤ (if (((asl.map V.ref).length : Nat) : Int) - (st.known : Int) < (w : Int) then (((asl.map V.ref).length : Nat) : Int) - (st.known : Int) else (w : Int))) = true then _ else _
              rw [e5, e6]
              have eh := hearS_one (w := w) (s := st) e
              rw [if_pos c1] at eh
              by_cases c4 : stepsOf w x st.known ≤ top w st - st.known
              · rw [decide_eq_true (by omega)]
                rw [if_pos c4] at eh
                refine iteT ?_
                refine ⟨_, rfl, (M.setA false q).dm, _, rfl, mg_k hd2, _, rfl, _, _, rfl, rfl, _, rfl, M.dm, _, rfl, DPut.k (k := Sum.inr ("known" : Str)) hd2 l8, ?_⟩
                have e7 : V.int ((st.known : Int) + ((x : Int) - (st.known : Int)) % ((w : Int) + 1)) = vn (hearS w g st p) := by
                  rw [e5, eh]
                  exact congrArg V.int (by omega)
                show Q .non (upd H2 M.dm (.dK (putK (mdl w g (M.setA false q) st.known) (Sum.inr "known") (V.int ((st.known : Int) + ((x : Int) - (st.known : Int)) % ((w : Int) + 1))))))
                rw [e7, put_K]
                refine k _ (M.setA false q) ?_
                show MStp w g H M _ _ (delB w g st) sp
                rw [eb]
                refine (X1.same s2).trans ⟨MAt.put (M := M.setA false q) (M1 := M.setA false q) (s1 := { st with back := r, known := hearS w g st p }) T2.d T2.ls T2.tk T2.th T2.bk T2.sp rfl, T2.kp, rfl, fun b hb => .inl hb⟩
              · rw [decide_eq_false (by omega)]
                rw [if_neg c4] at eh
                refine iteF ?_
                exact quit s2 (eb.trans (by rw [eh]; rfl))
            | cons y ys =>
              have hz1 : decide (V.int ((((x :: y :: ys).map vn).length : Nat) : Int) = V.int 1) = false := decide_eq_false (fun z => by
                injection z with z
                rw [List.length_map, List.length_cons, List.length_cons] at z
                omega)
              show if decide (V.int ((((x :: y :: ys).map vn).length : Nat) : Int) = V.int 1) = true then _ else _
              rw [hz1]
              refine iteF ?_
              refine quit s2 (eb.trans ?_)
              have : hearS w g st p = st.known := by unfold hearS; rw [e]
              rw [this]
              rfl
        · rw [decide_eq_true (by omega)]
          rw [if_neg c1] at eT
          refine iteT ?_
          exact quit s2 (stay eT (by
            unfold hearS
            rw [e]
            cases ys with
            | nil => exact if_neg c1
            | cons y ys => rfl))
end
end Tk
end

section
set_option Elab.async false
set_option maxRecDepth 100000
set_option maxHeartbeats 4000000
set_option linter.unusedVariables false
/-! The law's deeds. -/
namespace Tk
open PySem PySem.Spec PyProof.Rows L2
inductive Deed where
  | queue (x : List Nat)
  | send
  | deliver (t : Bool)
  | lose (t : Bool) (i : Nat)
  | rept (t : Bool) (i : Nat)
  | damage (t : Bool) (i f : Nat) (p : Bits)
inductive DAt (H : Hp) (a : Addr) : Deed → Prop
  | queue {x : List Nat} {b : Addr} : H a = some (.tup [.str "queue", .ref b]) → H b = some (.tup (x.map vn)) → DAt H a (.queue x)
  | send : H a = some (.tup [.str "send"]) → DAt H a .send
  | deliver {t : Bool} : H a = some (.tup [.str "deliver", .str (ws t)]) → DAt H a (.deliver t)
  | lose {t : Bool} {i : Nat} : H a = some (.tup [.str "lose", .str (ws t), vn i]) → DAt H a (.lose t i)
  | rept {t : Bool} {i : Nat} : H a = some (.tup [.str "repeat", .str (ws t), vn i]) → DAt H a (.rept t i)
  | damage {t : Bool} {i f : Nat} {p : Bits} : H a = some (.tup [.str "damage", .str (ws t), vn i, vn f, vb p]) → DAt H a (.damage t i f p)
theorem DAt.mono {H H' : Hp} {a : Addr} {d : Deed} (h : DAt H a d) (k : ∀ b xs, H b = some (.tup xs) → H' b = some (.tup xs)) : DAt H' a d := by
  cases h with
  | queue h1 h2 => exact .queue (k _ _ h1) (k _ _ h2)
  | send h1 => exact .send (k _ _ h1)
  | deliver h1 => exact .deliver (k _ _ h1)
  | lose h1 => exact .lose (k _ _ h1)
  | rept h1 => exact .rept (k _ _ h1)
  | damage h1 => exact .damage (k _ _ h1)
def Wf (g : Bits) : Deed → Prop
  | .queue x => x.length ≤ 4 ∧ ∀ y ∈ x, y < 256
  | .damage _ _ f p => p.length < g.length ∧ f < 20
  | _ => True
abbrev sDeed : Stmt := top_ 34
def spDe : Sp := fun vs H Q _ => ∃ (c : Int) (M : MA) (s : St) (sp : List Bits) (w : Nat) (g : Bits), vs = [.int c, .ref M.dm] ∧ MAt w g H M s sp ∧ Gen g ∧ s.there.length ≤ 1000 ∧ s.back.length ≤ 1000 ∧
  ∀ d a H', Same H H' → DAt H' a d → Wf g d → Q (.ref a) H'
section
variable {P : Program} {w : World} {K : PySem.W.Frag} {mg : Str → Option Value} {base : Heap}
theorem scDeed : FnScope ["_law_cell_here", "_law_model", "_law_draws_here", "_law_kind", "_law_way", "_law_place", "_law_size", "_law_pattern", "_law_k"] ["_law_cell_here", "_law_model"] (defScope sDeed) := ⟨rfl, rfl, rfl, by decide +kernel, rfl, by decide +kernel, by decide +kernel⟩
theorem two_at {a b : V} {z : Int} (h : z = 0 ∨ z = 1) : atI [a, b] z = some (if z = 0 then a else b) := by
  rcases h with rfl | rfl
  · exact atI_nat (j := 0) rfl
  · exact atI_nat (j := 1) rfl
theorem way_at (z : Int) (h : z = 0 ∨ z = 1) : ∃ t : Bool, (if z = 0 then V.str "there" else V.str "back") = V.str (ws t) := by
  rcases h with rfl | rfl
  · exact ⟨true, rfl⟩
  · exact ⟨false, rfl⟩
theorem ok_deed {f : Addr} {fd : FuncData} (D : Def K mg "_law_deed" sDeed ["_law_cell_here", "_law_model"] f fd) (cD : Cal P w K mg base CX0 1 "_law_draws" spDr) (cL : Cal P w K mg base CX0 2 "_law_letter" spLe)
    (gR : mg "range" = none) (gI : mg "int" = none) (gS : mg "str" = none) (gL : mg "len" = none) : FnOk P w K mg base CX0 3 f fd ["_law_cell_here", "_law_model"] spDe := by
  refine D.fn.ok scDeed (fun vs H Q E h => ?_) (fun cdv A outer s H vs Q E hr h => ?_)
  · obtain ⟨c, M, s, sp, w, g, rfl, _⟩ := h
    rfl
  · obtain ⟨c, M, st, sp, w, g, rfl, TM, hg, hA, hB, k⟩ := h
    refine ⟨_, pss_cons (ps_set (i := 2) scDeed.nd rfl (Or.inr rfl) (pe_c cD hr pass0 (pa_cons (pv 0) (pa_cons pe_int pa_nil))))
      (pss_cons (ps_set (i := 3) scDeed.nd rfl (Or.inl rfl) (pe_op op_mod (pe_callTy call_int1 (by rfl) gI (by decide +kernel) (pa_cons (pe_ix ix_list (pv 2) pe_int (fun _ _ => rfl)) pa_nil)) pe_int))
      (pss_cons (ps_set (i := 4) scDeed.nd rfl (Or.inl rfl) (pe_ix ix_list (pe_lst (pa_cons pe_str (pa_cons pe_str pa_nil))) (pe_op op_mod (pe_callTy call_int1 (by rfl) gI (by decide +kernel) (pa_cons (pe_ix ix_list (pv 2) pe_int (fun _ _ => rfl)) pa_nil)) pe_int) (fun _ _ => rfl)))
      (pss_cons (ps_if (pt_cmpR op_lt (pv 3) pe_int (nomark _)) (pss_one (ps_ret (pe_tup (pa_cons pe_str (pa_cons (pe_c cL hr pass0 (pa_cons (pe_callTy call_int1 (by rfl) gI (by decide +kernel) (pa_cons (pe_ix ix_list (pv 2) pe_int (fun _ _ => rfl)) pa_nil)) (pa_cons pe_int pa_nil))) pa_nil))))) pss_nil)
      (pss_cons (ps_if (pt_cmpR op_lt (pv 3) pe_int (nomark _)) (pss_one (ps_ret (pe_tup (pa_cons pe_str pa_nil)))) pss_nil)
      (pss_cons (ps_if (pt_cmpR op_lt (pv 3) pe_int (nomark _)) (pss_one (ps_ret (pe_tup (pa_cons pe_str (pa_cons (pv 4) pa_nil))))) pss_nil)
      (pss_cons (ps_set (i := 5) scDeed.nd rfl (Or.inl rfl) (pe_op op_mod (pe_callTy call_int1 (by rfl) gI (by decide +kernel) (pa_cons (pe_ix ix_list (pv 2) pe_int (fun _ _ => rfl)) pa_nil)) (pe_op op_add (pe_callB call_len_seq (by rfl) gL boot_len (pa_cons (pe_dget (hu_of hr) (pv 1) (pv 4) (fun _ _ => rfl)) pa_nil)) pe_int)))
      (pss_cons (ps_if (pt_cmpR op_lt (pv 3) pe_int (nomark _)) (pss_one (ps_ret (pe_tup (pa_cons (pe_ix ix_list (pe_lst (pa_cons pe_str (pa_cons pe_str pa_nil))) (pe_op op_sub (pv 3) pe_int) (fun _ _ => rfl)) (pa_cons (pv 4) (pa_cons (pv 5) pa_nil)))))) pss_nil)
      (pss_cons (ps_set (i := 6) scDeed.nd rfl (Or.inl rfl) (pe_op op_mod (pe_callTy call_int1 (by rfl) gI (by decide +kernel) (pa_cons (pe_ix ix_list (pv 2) pe_int (fun _ _ => rfl)) pa_nil)) (pe_callB call_len_str (by rfl) gL boot_len (pa_cons (pe_dget (hu_of hr) (pv 1) pe_str (fun _ _ => rfl)) pa_nil))))
      (pss_cons (ps_set (i := 7) scDeed.nd rfl (Or.inl rfl) (pe_join pe_str (pe_lc (own := [("_law_k", 8)]) (g := gName 8) (tt := tYes) rfl scDeed.nd (pi_range1 (by rfl) gR (pa_cons (pv 6) pa_nil))
          (blkOk_by (N := ["_law_cell_here", "_law_model", "_law_draws_here", "_law_kind", "_law_way", "_law_place", "_law_size", "_law_pattern", "_law_k"]) (sc := defScope sDeed) (by decide +kernel))
          (fun _ _ _ _ _ => pg_name (i := 8) scDeed.nd rfl (Or.inl rfl)) (fun _ _ _ _ _ => pts_nil)
          (fun _ _ _ _ _ => pe_callTy call_str_int (by rfl) gS (by decide +kernel) (pa_cons (pe_op op_mod (pe_op op_fdiv (pe_callTy call_int1 (by rfl) gI (by decide +kernel) (pa_cons (pe_ix (show IxR _ (rIxL K) from ix_list) (pv 2) (pe_op op_add pe_int (pe_op op_mod (pv 8) pe_int)) (fun _ _ => rfl)) pa_nil)) (pe_op op_add (pv 8) pe_int)) pe_int) pa_nil)))))
      (pss_one (ps_ret (pe_tup (pa_cons pe_str (pa_cons (pv 4) (pa_cons (pv 5) (pa_cons (pe_op op_mod (pe_callTy call_int1 (by rfl) gI (by decide +kernel) (pa_cons (pe_ix ix_list (pv 2) pe_int (fun _ _ => rfl)) pa_nil)) pe_int) (pa_cons (pv 7) pa_nil))))))))))))))))), ?_⟩
    refine ⟨_, rfl, c, 9, rfl, by decide, fun ds p H1 hl hd s1 hp hp1 => ?_⟩
    have at_ : ∀ i < 9, ∃ d, ds[i]? = some d ∧ d < 1000003 := fun i hi => ⟨ds[i]'(by omega), List.getElem?_eq_getElem (by omega), hd _ (List.getElem_mem _)⟩
    obtain ⟨d0, h0, _⟩ := at_ 0 (by decide)
    obtain ⟨d1, h1, _⟩ := at_ 1 (by decide)
    obtain ⟨d2, h2, _⟩ := at_ 2 (by decide)
    obtain ⟨d3, h3, _⟩ := at_ 3 (by decide)
    obtain ⟨d4, h4, _⟩ := at_ 4 (by decide)
    refine ⟨_, rfl, p, _, _, _, rfl, rfl, SqL.of hp1, lit_at h0, .inl ⟨_, rfl, _, _, rfl, rfl, (by show (0 : Int) < 12; decide), ?_⟩⟩
    refine ⟨line_pos (by show 2 ≤ 100000; decide), fun q hq => ?_⟩
    have s2 := Same.new (Same.refl H1) hq (o := .lst [V.str "there", V.str "back"])
    have hp2 := s2 _ _ hp1
    have z2 : (d1 : Int) % 2 = 0 ∨ (d1 : Int) % 2 = 1 := by omega
    obtain ⟨t, et⟩ := way_at _ z2
    refine ⟨_, rfl, p, _, _, _, rfl, rfl, SqL.of hp2, lit_at h1, .inl ⟨_, rfl, _, _, rfl, rfl, (by show (0 : Int) < 2; decide), q, _, _, _, rfl, rfl, SqL.of upd_same, two_at z2, ?_⟩⟩
    rw [et]
    have s12 := s1.trans s2
    generalize hH2 : upd H1 q (.lst [V.str "there", V.str "back"]) = H2 at s2 hp2 s12
    have k0 := Int.emod_nonneg (d0 : Int) (show (12 : Int) ≠ 0 by decide)
    have k1 := Int.emod_lt_of_pos (d0 : Int) (show (0 : Int) < 12 by decide)
    refine ⟨_, rfl, _, _, rfl, rfl, _, rfl, ?_⟩
    refine ite2 (fun c1 => ?_) (fun c1 => ?_)
    · refine ⟨_, rfl, p, _, _, _, rfl, rfl, SqL.of hp2, lit_at h2, .inl ⟨_, rfl, (d2 : Int), 4, rfl, by decide, fun x b H3 hx hx1 s3 hb hb3 => ⟨line_pos (by show 2 ≤ 100000; decide), fun a ha => ?_⟩⟩⟩
      have s4 := Same.new s3 ha (o := .tup [V.str "queue", V.ref b])
      exact k (.queue x) a _ (s12.trans s4) (.queue upd_same (by rw [upd_ne (ne_of_none hb3 ha)]; exact hb3)) ⟨hx, hx1⟩
    refine ⟨_, rfl, _, _, rfl, rfl, _, rfl, ?_⟩
    refine ite2 (fun c2 => ?_) (fun c2 => ?_)
    · exact ⟨line_pos (by show 1 ≤ 100000; decide), fun a ha => k .send a _ (s12.trans (Same.new (Same.refl H2) ha)) (.send upd_same) trivial⟩
    refine ⟨_, rfl, _, _, rfl, rfl, _, rfl, ?_⟩
    refine ite2 (fun c3 => ?_) (fun c3 => ?_)
    · exact ⟨_, rfl, line_pos (by show 2 ≤ 100000; decide), fun a ha => k (.deliver t) a _ (s12.trans (Same.new (Same.refl H2) ha)) (.deliver upd_same) trivial⟩
    have T2 := TM.same s12
    have hll : (line st t).length ≤ 1000 := by cases t <;> assumption
    refine ⟨_, rfl, p, _, _, _, rfl, rfl, SqL.of hp2, lit_at h3, .inl ⟨_, rfl, _, rfl, _, rfl, M.dm, _, rfl, mg_line T2.d t, _, _, rfl, .inl (SqL.of (T2.line t)), _, _, rfl, rfl, _, _, rfl, rfl, (by show (0 : Int) < _; omega), ?_⟩⟩
    have ep : V.int ((d3 : Int) % ((((line st t).map vb).length : Nat) + 1)) = vn (d3 % ((line st t).length + 1)) := by
      rw [List.length_map]
      exact congrArg V.int (by rw [Int.natCast_emod]; rfl)
    show _
    have ep' : (fun i j => V.int (i % j)) (d3 : Int) ((((line st t).map vb).length : Nat) + 1) = vn (d3 % ((line st t).length + 1)) := ep
    refine ⟨_, rfl, _, _, rfl, rfl, _, rfl, ?_⟩
    refine ite2 (fun c4 => ?_) (fun c4 => ?_)
    · refine ⟨line_pos (by show 2 ≤ 100000; decide), fun q2 hq2 => ?_⟩
      have c3' : ¬ (d0 : Int) % 12 < 9 := fun h => c3 (decide_eq_true h)
      have c4' : (d0 : Int) % 12 < 11 := of_decide_eq_true c4
      have z9 : (d0 : Int) % 12 - 9 = 0 ∨ (d0 : Int) % 12 - 9 = 1 := by omega
      refine ⟨_, rfl, _, _, rfl, rfl, q2, _, _, _, rfl, rfl, SqL.of upd_same, two_at z9, _, rfl, _, rfl, line_pos (by show 3 ≤ 100000; decide), fun a ha => ?_⟩
      have s5 := Same.new (Same.new (Same.refl H2) hq2 (o := .lst [V.str "lose", V.str "repeat"])) ha (o := .tup [if (d0 : Int) % 12 - 9 = 0 then V.str "lose" else V.str "repeat", V.str (ws t), V.int ((d3 : Int) % ((((line st t).map vb).length : Nat) + 1))])
      rcases z9 with z9 | z9
      · refine k (.lose t (d3 % ((line st t).length + 1))) a _ (s12.trans s5) (.lose ?_) trivial
        rw [upd_same, if_pos z9]
        exact congrArg (fun v => some (HO.tup [V.str "lose", V.str (ws t), v])) ep
      · refine k (.rept t (d3 % ((line st t).length + 1))) a _ (s12.trans s5) (.rept ?_) trivial
        rw [upd_same, if_neg (by omega)]
        exact congrArg (fun v => some (HO.tup [V.str "repeat", V.str (ws t), v])) ep
    have lg := bs_length g
    have g1 := hg.lo
    have g2 := hg.hi
    refine ⟨_, rfl, p, _, _, _, rfl, rfl, SqL.of hp2, lit_at h4, .inl ⟨_, rfl, _, rfl, M.dm, _, rfl, mg_g T2.d, bs g, rfl, line_pos (by omega), _, _, rfl, rfl, (by show (0 : Int) < _; omega), ?_⟩⟩
    have es : (d4 : Int) % ((bs g).length : Int) = ((d4 % g.length : Nat) : Int) := by rw [lg, Int.natCast_emod]
    have hm := Nat.mod_lt d4 (show 0 < g.length by omega)
    refine ⟨⟨_, rfl⟩, _, rfl, ((d4 % g.length : Nat) : Int), congrArg (fun z => [V.int z]) es, by omega, by omega, fun D2 hD => ?_⟩
    rw [Int.toNat_natCast]
    refine lc_range (lo := 0) (n := d4 % g.length) (fun i H' => Same H2 H' ∧ ∃ bl : List Bits, bl.length = i ∧ (∀ b ∈ bl, b.length = 1) ∧ H' D2 = some (.lst ((bl.map bs).map V.str))) ⟨Same.new (Same.refl H2) hD, [], rfl, (fun b hb => by cases hb), upd_same⟩ ?_ ?_
    · rintro i H' hi ⟨s6, bl, hbl, hb1, hd'⟩
      have h4m := Nat.mod_lt i (show 0 < 4 by decide)
      obtain ⟨d, h5, _⟩ := at_ (5 + i % 4) (by omega)
      refine ⟨rfl, _, rfl, _, rfl, _, _, rfl, rfl, (by show (0 : Int) < 4; decide), _, _, rfl, rfl, p, _, ((5 + i % 4 : Nat) : Int), vn d, rfl, congrArg V.int (by omega), SqL.of (s6 _ _ hp2), lit_at h5, .inl ⟨_, rfl, _, rfl, _, _, rfl, rfl, _, _, rfl, rfl, ⟨by omega, by omega⟩, _, _, rfl, rfl, (by show (0 : Int) < 2; decide), ((d / (i + 1) % 2 : Nat) : Int), congrArg (fun z => [V.int z]) ?_, log_bit _, _, hd', ?_, ?_, bl ++ [[decide (d / (i + 1) % 2 = 1)]], by rw [List.length_append, hbl]; rfl, snoc_one hb1, ?_⟩⟩
      · have e1 : (0 : Int) + ((i : Nat) : Int) + 1 = ((i + 1 : Nat) : Int) := by omega
        show (d : Int) / ((0 : Int) + ((i : Nat) : Int) + 1) % 2 = _
        rw [e1, Int.natCast_emod, Int.natCast_ediv]
        rfl
      · rw [List.length_map, List.length_map]; exact line_lt (by omega)
      · intro b o e
        rw [upd_ne (ne_of_none e hD)]
        exact s6 b o e
      · rw [upd_same, str_bit, List.map_append, List.map_append]
        rfl
    · rintro H' ⟨s6, bl, hbl, hb1, hd'⟩
      have e0 : (("" : Str)).length = 0 := by decide +kernel
      have lf := ones_len hb1
      refine ⟨_, D2, bl.map bs, rfl, rfl, .inl (SqL.of hd'), ?_, ?_⟩
      · rw [sum_lens, e0, lf]; omega
      · rw [join_bs]
        refine ⟨_, rfl, _, rfl, _, rfl, p, _, _, _, rfl, rfl, SqL.of (s6 _ _ hp2), lit_at h2, .inl ⟨_, rfl, _, _, rfl, rfl, (by show (0 : Int) < 20; decide), _, rfl, line_pos (by show 5 ≤ 100000; decide), fun a ha => ?_⟩⟩
        have h20 := Nat.mod_lt d2 (show 0 < 20 by decide)
        have e20 : V.int ((d2 : Int) % 20) = vn (d2 % 20) := congrArg V.int (by omega)
        refine k (.damage t (d3 % ((line st t).length + 1)) (d2 % 20) bl.flatten) a _ (s12.trans (s6.trans (Same.new (Same.refl H') ha))) (.damage ?_) ⟨by rw [lf]; omega, h20⟩
        rw [upd_same, ← ep, ← e20]
        rfl
end
end Tk
end

section
set_option Elab.async false
set_option maxRecDepth 100000
set_option maxHeartbeats 4000000
set_option linter.unusedVariables false
/-! The law's model does a deed. -/
namespace Tk
open PySem PySem.Spec PyProof.Rows L2
inductive Due where
  | non
  | num (n : Nat)
  | str (m : Str)
def Due.v : Due → V
  | .non => .non
  | .num n => vn n
  | .str m => .str m
/-- a deed done: the state, what was spoilt, the answer -/
def stepS (w : Nat) (g : Bits) (s : St) (sp : List Bits) : Deed → St × List Bits × Due
  | .queue x => (queue s x, sp, .non)
  | .send => (send w g s, sp, .num (top w s - s.known))
  | .deliver t => if line s t = [] then (s, sp, .str "nothing there") else ((if t = true then delT w g s else delB w g s), sp, .non)
  | .lose t i => if i < (line s t).length then (lose s t i, sp, .non) else (s, sp, .str "nothing there")
  | .rept t i => if i < (line s t).length then (rept s t i, sp, .non) else (s, sp, .str "nothing there")
  | .damage t i f p => if i < (line s t).length then (if p = [] ∨ ((line s t).getD i []).length < f + p.length then (s, sp, .str "pattern does not fit") else (spoil s t i f p, sp ++ [damaged ((line s t).getD i []) f p], .non)) else (s, sp, .str "nothing there")
/-- sizes -/
structure Bnd (w : Nat) (g : Bits) (s : St) (sp : List Bits) : Prop where
  gen : Gen g
  w7 : w ≤ 7
  kl : s.known ≤ s.letters.length
  ll : s.letters.length ≤ 60
  tl : s.taken.length ≤ 60
  byt : ∀ l ∈ s.letters, l.length ≤ 4 ∧ ∀ x ∈ l, x < 256
  l1 : s.there.length ≤ 40
  l2 : s.back.length ≤ 40
  q : ∀ t, ∀ b ∈ line s t, b.length ≤ 48
  spl : sp.length ≤ 1000
theorem Bnd.ln {w : Nat} {g : Bits} {s : St} {sp : List Bits} (B : Bnd w g s sp) (t : Bool) : (line s t).length ≤ 40 := by
  cases t
  · exact B.l2
  · exact B.l1
theorem ifF {c : Bool} {A B : Prop} (h : c = false) (b : B) : if c = true then A else B := by
  subst h
  exact iteF b
theorem ifT {c : Bool} {A B : Prop} (h : c = true) (a : A) : if c = true then A else B := by
  subst h
  exact iteT a
abbrev sDone : Stmt := top_ 35
def spDn : Sp := fun vs H Q _ => ∃ (M : MA) (s : St) (sp : List Bits) (w : Nat) (g : Bits) (d : Deed) (a : Addr), vs = [.ref M.dm, .ref a] ∧ MAt w g H M s sp ∧ DAt H a d ∧ Bnd w g s sp ∧ Wf g d ∧
  ∀ H' M', MStp w g H M H' M' (stepS w g s sp d).1 (stepS w g s sp d).2.1 → Q (stepS w g s sp d).2.2.v H'
section
variable {P : Program} {w : World} {K : PySem.W.Frag} {mg : Str → Option Value} {base : Heap}
theorem scDone : FnScope ["_law_model", "_law_deed_here", "_law_line", "_law_payload", "_law_behind", "_law_spoilt"] ["_law_model", "_law_deed_here"] (defScope sDone) := ⟨rfl, rfl, rfl, by decide +kernel, rfl, by decide +kernel, by decide +kernel⟩
theorem cut_set {l : List Bits} {i : Nat} {x : Bits} (h : i < l.length) : (l.take i ++ [x]) ++ l.drop (i + 1) = l.set i x := by
  rw [List.set_eq_take_append_cons_drop, if_pos h]
  simp
theorem cut_erase {l : List Bits} {i : Nat} : l.take i ++ l.drop (i + 1) = l.eraseIdx i := (List.eraseIdx_eq_take_drop_succ l i).symm
theorem ok_done {f : Addr} {fd : FuncData} (D : Def K mg "_law_done" sDone ["_law_model", "_law_deed_here"] f fd) (cS : Cal P w K mg base CX0 5 "_law_sent" spMs) (cD : Cal P w K mg base CX0 6 "_law_delivered" spDl) (cA : Cal P w K mg base CX0 1 "added" spAdded) (gL : mg "len" = none) :
    FnOk P w K mg base CX0 7 f fd ["_law_model", "_law_deed_here"] spDn := by
  refine D.fn.ok scDone (fun vs H Q E h => ?_) (fun cdv A outer s H vs Q E hr h => ?_)
  · obtain ⟨M, s, sp, w, g, d, a, rfl, _⟩ := h
    rfl
  · obtain ⟨M, st, sp, w, g, d, a, rfl, TM, hD, Bn, hW, k⟩ := h
    refine ⟨_, pss_cons (ps_if (pt_cmpR op_eq (pe_ix ix_tup (pv 1) pe_int (fun _ _ => rfl)) pe_str (nomark _))
        (pss_cons (ps_dput (hu_of hr) (pv 0) pe_str (pe_op op_cat (pe_dget (hu_of hr) (pv 0) pe_str (fun _ _ => rfl)) (pe_lst (pa_cons (pe_ix ix_tup (pv 1) pe_int (fun _ _ => rfl)) pa_nil))) rfl) (pss_one (ps_ret pe_non))) pss_nil)
      (pss_cons (ps_if (pt_cmpR op_eq (pe_ix ix_tup (pv 1) pe_int (fun _ _ => rfl)) pe_str (nomark _)) (pss_one (ps_ret (pe_c cS hr pass0 (pa_cons (pv 0) pa_nil)))) pss_nil)
      (pss_cons (ps_set (i := 2) scDone.nd rfl (Or.inl rfl) (pe_dget (hu_of hr) (pv 0) (pe_ix ix_tup (pv 1) pe_int (fun _ _ => rfl)) (fun _ _ => rfl)))
      (pss_cons (ps_if (pt_cmpR op_le (pe_callB call_len_seq (by rfl) gL boot_len (pa_cons (pv 2) pa_nil)) (pe_ifExp (pt_cmpR op_eq (pe_ix ix_tup (pv 1) pe_int (fun _ _ => rfl)) pe_str (nomark _)) pe_int (pe_ix ix_tup (pv 1) pe_int (fun _ _ => rfl))) (nomark _)) (pss_one (ps_ret pe_str)) pss_nil)
      (pss_cons (ps_if (pt_cmpR op_eq (pe_ix ix_tup (pv 1) pe_int (fun _ _ => rfl)) pe_str (nomark _)) (pss_one (ps_ret (pe_c cD hr pass0 (pa_cons (pv 0) (pa_cons (pe_ix ix_tup (pv 1) pe_int (fun _ _ => rfl)) pa_nil))))) pss_nil)
      (pss_cons (ps_if (pt_cmpR op_eq (pe_ix ix_tup (pv 1) pe_int (fun _ _ => rfl)) pe_str (nomark _))
        (pss_cons (ps_dput (hu_of hr) (pv 0) (pe_ix ix_tup (pv 1) pe_int (fun _ _ => rfl)) (pe_op op_cat (pe_slice sl_list (pv 2) po_none (po_some (pe_ix ix_tup (pv 1) pe_int (fun _ _ => rfl)))) (pe_slice sl_list (pv 2) (po_some (pe_op op_add (pe_ix ix_tup (pv 1) pe_int (fun _ _ => rfl)) pe_int)) po_none)) rfl) (pss_one (ps_ret pe_non))) pss_nil)
      (pss_cons (ps_if (pt_cmpR op_eq (pe_ix ix_tup (pv 1) pe_int (fun _ _ => rfl)) pe_str (nomark _))
        (pss_cons (ps_dput (hu_of hr) (pv 0) (pe_ix ix_tup (pv 1) pe_int (fun _ _ => rfl)) (pe_ifExp (pt_cmpR op_lt (pe_callB call_len_seq (by rfl) gL boot_len (pa_cons (pv 2) pa_nil)) pe_int (nomark _)) (pe_op op_cat (pe_slice sl_list (pv 2) po_none (po_some (pe_op op_add (pe_ix ix_tup (pv 1) pe_int (fun _ _ => rfl)) pe_int))) (pe_slice sl_list (pv 2) (po_some (pe_ix ix_tup (pv 1) pe_int (fun _ _ => rfl))) po_none)) (pv 2)) rfl) (pss_one (ps_ret pe_non))) pss_nil)
      (pss_cons (ps_set (i := 3) scDone.nd rfl (Or.inl rfl) (pe_ix ix_list (pv 2) (pe_ix ix_tup (pv 1) pe_int (fun _ _ => rfl)) (fun _ _ => rfl)))
      (pss_cons (ps_set (i := 4) scDone.nd rfl (Or.inl rfl) (pe_op op_add (pe_ix ix_tup (pv 1) pe_int (fun _ _ => rfl)) (pe_callB call_len_str (by rfl) gL boot_len (pa_cons (pe_ix ix_tup (pv 1) pe_int (fun _ _ => rfl)) pa_nil))))
      (pss_cons (ps_if (PW.pt (pw_or (pt_cmpR op_eq (pe_ix ix_tup (pv 1) pe_int (fun _ _ => rfl)) pe_str (nomark _)) (pw_or1 (pt_cmpR op_gt (pv 4) (pe_callB call_len_str (by rfl) gL boot_len (pa_cons (pv 3) pa_nil)) (nomark _))))) (pss_one (ps_ret pe_str)) pss_nil)
      (pss_cons (ps_set (i := 5) scDone.nd rfl (Or.inl rfl) (pe_op op_add_str (pe_op op_add_str (pe_slice sl_str (pv 3) po_none (po_some (pe_ix ix_tup (pv 1) pe_int (fun _ _ => rfl))))
          (pe_c cA hr pass0 (pa_cons (pe_slice sl_str (pv 3) (po_some (pe_ix ix_tup (pv 1) pe_int (fun _ _ => rfl))) (po_some (pv 4))) (pa_cons (pe_ix ix_tup (pv 1) pe_int (fun _ _ => rfl)) pa_nil)))) (pe_slice sl_str (pv 3) (po_some (pv 4)) po_none)))
      (pss_cons (ps_dput (hu_of hr) (pv 0) pe_str (pe_op op_cat (pe_dget (hu_of hr) (pv 0) pe_str (fun _ _ => rfl)) (pe_lst (pa_cons (pv 5) pa_nil))) rfl)
      (pss_cons (ps_dput (hu_of hr) (pv 0) (pe_ix ix_tup (pv 1) pe_int (fun _ _ => rfl)) (pe_op op_cat (pe_op op_cat (pe_slice sl_list (pv 2) po_none (po_some (pe_ix ix_tup (pv 1) pe_int (fun _ _ => rfl)))) (pe_lst (pa_cons (pv 5) pa_nil))) (pe_slice sl_list (pv 2) (po_some (pe_op op_add (pe_ix ix_tup (pv 1) pe_int (fun _ _ => rfl)) pe_int)) po_none)) rfl)
      (pss_one (ps_ret pe_non)))))))))))))), ?_⟩
    have hd := TM.d
    have l8 : ∀ {M2 : MA} {n : Nat}, (mdl w g M2 n).length < sizeLine := fun {M2 n} => line_lt (by show 8 ≤ 100000; decide)
    have l1 : 1 ≤ sizeLine := line_pos (by decide)
    obtain ⟨b1, b2, b3, b4, b5, b6, b7, b8, b9, b10⟩ := id Bn
    have bln := Bn.ln
    cases hD with
    | @queue x b ha hb =>
      refine ⟨_, rfl, a, _, _, _, rfl, rfl, SqT.of ha, atI_nat (j := 0) rfl, rfl, _, rfl, ifT (by decide +kernel) ?_⟩
      obtain ⟨as, hl, ht⟩ := TM.ls
      refine ⟨_, rfl, M.dm, _, rfl, mg_l hd, _, rfl, a, _, _, _, rfl, rfl, SqT.of ha, atI_nat (j := 1) rfl, l1, fun q hq => ?_⟩
      have s1 := Same.new (Same.refl H) hq (o := .lst [V.ref b])
      refine ⟨M.lL, q, _, _, rfl, rfl, s1 _ _ hl, upd_same, ?_, fun q2 hq2 => ?_⟩
      · rw [List.length_map, ht.1]; exact line_pos (by simp only [List.length_cons, List.length_nil]; omega)
      have s2 := Same.new s1 hq2 (o := .lst (as.map V.ref ++ [V.ref b]))
      refine ⟨_, rfl, M.dm, _, rfl, DPut.k (k := Sum.inr ("letters" : Str)) (s2 _ _ hd) l8, ?_⟩
      rw [put_L]
      have T2 := TM.same s2
      refine k _ { M with lL := q2 } ⟨MAt.put (M1 := { M with lL := q2 }) (s1 := queue st x) T2.d ⟨as ++ [b], by rw [upd_same, List.map_append]; rfl, (ht.mono fun b _ e => s2 b _ e).snoc (s2 _ _ hb)⟩ T2.tk T2.th T2.bk T2.sp rfl, (Kp.same s2).trans T2.kp, rfl, fun b' hb' => ?_⟩
      simp only [MA.all, List.mem_cons, List.not_mem_nil, or_false] at hb'
      rcases hb' with h | h | h | h | h
      · refine .inr ?_
        rw [h]
        cases e : H q2 with
        | none => rfl
        | some o => rw [s1 _ _ e] at hq2; cases hq2
      · exact .inl (by rw [h]; simp [MA.all])
      · exact .inl (by rw [h]; simp [MA.all])
      · exact .inl (by rw [h]; simp [MA.all])
      · exact .inl (by rw [h]; simp [MA.all])
    | send ha =>
      refine ⟨_, rfl, a, _, _, _, rfl, rfl, SqT.of ha, atI_nat (j := 0) rfl, rfl, _, rfl, ifF (by decide +kernel) ?_⟩
      refine ⟨_, rfl, a, _, _, _, rfl, rfl, SqT.of ha, atI_nat (j := 0) rfl, rfl, _, rfl, ifT (by decide +kernel) ?_⟩
      exact ⟨_, rfl, M, st, sp, w, g, rfl, TM, b1, b2, b3, by omega, b6, b7, fun H' M' X => k H' M' X⟩
    | @deliver t ha =>
      refine ⟨_, rfl, a, _, _, _, rfl, rfl, SqT.of ha, atI_nat (j := 0) rfl, rfl, _, rfl, ifF (by decide +kernel) ?_⟩
      refine ⟨_, rfl, a, _, _, _, rfl, rfl, SqT.of ha, atI_nat (j := 0) rfl, rfl, _, rfl, ifF (by decide +kernel) ?_⟩
      have hl := TM.line t
      refine ⟨_, rfl, _, rfl, a, _, _, _, rfl, rfl, SqT.of ha, atI_nat (j := 1) rfl, M.dm, _, rfl, mg_line hd t, ?_⟩
      refine ⟨_, rfl, _, _, rfl, .inl (SqL.of hl), _, rfl, a, _, _, _, rfl, rfl, SqT.of ha, atI_nat (j := 0) rfl, rfl, _, rfl, ifT (by decide +kernel) ?_⟩
      refine ⟨_, _, rfl, rfl, _, rfl, ?_⟩
      rw [List.length_map]
      by_cases c : line st t = []
      · refine ifT (decide_eq_true (by rw [c]; decide)) ?_
        have e : stepS w g st sp (.deliver t) = (st, sp, .str "nothing there") := if_pos c
        rw [e] at k
        exact k H M (MStp.refl TM)
      · have hpos : 0 < (line st t).length := List.length_pos_iff.mpr c
        refine ifF (decide_eq_false (by omega)) ?_
        refine ⟨_, rfl, a, _, _, _, rfl, rfl, SqT.of ha, atI_nat (j := 0) rfl, rfl, _, rfl, ifT (by decide +kernel) ?_⟩
        have e : stepS w g st sp (.deliver t) = ((if t = true then delT w g st else delB w g st), sp, .non) := if_neg c
        rw [e] at k
        exact ⟨_, rfl, _, rfl, a, _, _, _, rfl, rfl, SqT.of ha, atI_nat (j := 1) rfl, M, st, sp, w, g, t, rfl, TM, b1, b2, b3, by omega, by omega, by omega, fun b hb => by have := b9 t b hb; omega, c, fun H' M' X => k H' M' X⟩
    | @lose t i ha =>
      refine ⟨_, rfl, a, _, _, _, rfl, rfl, SqT.of ha, atI_nat (j := 0) rfl, rfl, _, rfl, ifF (by decide +kernel) ?_⟩
      refine ⟨_, rfl, a, _, _, _, rfl, rfl, SqT.of ha, atI_nat (j := 0) rfl, rfl, _, rfl, ifF (by decide +kernel) ?_⟩
      have hl := TM.line t
      have hln := bln t
      refine ⟨_, rfl, _, rfl, a, _, _, _, rfl, rfl, SqT.of ha, atI_nat (j := 1) rfl, M.dm, _, rfl, mg_line hd t, ?_⟩
      refine ⟨_, rfl, _, _, rfl, .inl (SqL.of hl), _, rfl, a, _, _, _, rfl, rfl, SqT.of ha, atI_nat (j := 0) rfl, rfl, _, rfl, ifF (by decide +kernel) ?_⟩
      refine ⟨_, rfl, a, _, _, _, rfl, rfl, SqT.of ha, atI_nat (j := 2) rfl, _, _, rfl, rfl, _, rfl, ?_⟩
      rw [List.length_map]
      by_cases c : i < (line st t).length
      · refine ifF (decide_eq_false (by omega)) ?_
        have e : stepS w g st sp (.lose t i) = (lose st t i, sp, .non) := if_pos c
        rw [e] at k
        refine ⟨_, rfl, a, _, _, _, rfl, rfl, SqT.of ha, atI_nat (j := 0) rfl, rfl, _, rfl, ifF (by decide +kernel) ?_⟩
        refine ⟨_, rfl, a, _, _, _, rfl, rfl, SqT.of ha, atI_nat (j := 0) rfl, rfl, _, rfl, ifT (by decide +kernel) ?_⟩
        refine ⟨_, rfl, _, rfl, a, _, _, _, rfl, rfl, SqT.of ha, atI_nat (j := 2) rfl, (i : Int), rfl, _, _, rfl, SqL.of hl, fun q1 hq1 => ?_⟩
        have s1 := Same.new (Same.refl H) hq1 (o := .lst (cutV ((line st t).map vb) none (some (i : Int))))
        refine ⟨_, rfl, _, rfl, a, _, _, _, rfl, rfl, SqT.of (s1 _ _ ha), atI_nat (j := 2) rfl, _, _, rfl, rfl, (i : Int) + 1, rfl, _, _, rfl, SqL.of (s1 _ _ hl), fun q2 hq2 => ?_⟩
        have s2 := Same.new s1 hq2 (o := .lst (cutV ((line st t).map vb) (some ((i : Int) + 1)) none))
        have n12 : q1 ≠ q2 := ne_of_none upd_same hq2
        refine ⟨q1, q2, _, _, rfl, rfl, by rw [upd_ne n12]; exact upd_same, upd_same, ?_, fun q3 hq3 => ?_⟩
        · have := cutV_length ((line st t).map vb) none (some (i : Int))
          have := cutV_length ((line st t).map vb) (some ((i : Int) + 1)) none
          rw [List.length_map] at *
          exact line_pos (by omega)
        have s3 := Same.new s2 hq3 (o := .lst (cutV ((line st t).map vb) none (some (i : Int)) ++ cutV ((line st t).map vb) (some ((i : Int) + 1)) none))
        have e1 : (i : Int) + 1 = ((i + 1 : Nat) : Int) := by omega
        have ec : cutV ((line st t).map vb) none (some (i : Int)) ++ cutV ((line st t).map vb) (some ((i : Int) + 1)) none = ((line st t).eraseIdx i).map vb := by
          rw [e1, cutV_to, cutV_from, ← List.map_take, ← List.map_drop, ← List.map_append, cut_erase]
        have hq3' : H q3 = none := by
          cases e : H q3 with
          | none => rfl
          | some o => have := s2 _ _ e; rw [this] at hq3; cases hq3
        refine ⟨_, rfl, _, rfl, a, _, _, _, rfl, rfl, SqT.of (s3 _ _ ha), atI_nat (j := 1) rfl, M.dm, _, rfl, DPut.k (k := Sum.inr (ws t)) (s3 _ _ hd) l8, ?_⟩
        rw [put_A]
        exact k _ _ (TM.lineStp s3 t (bl := (line st t).eraseIdx i) (by rw [upd_same, ec]) (.inr hq3'))
      · refine ifT (decide_eq_true (by omega)) ?_
        have e : stepS w g st sp (.lose t i) = (st, sp, .str "nothing there") := if_neg c
        rw [e] at k
        exact k H M (MStp.refl TM)
    | @rept t i ha =>
      refine ⟨_, rfl, a, _, _, _, rfl, rfl, SqT.of ha, atI_nat (j := 0) rfl, rfl, _, rfl, ifF (by decide +kernel) ?_⟩
      refine ⟨_, rfl, a, _, _, _, rfl, rfl, SqT.of ha, atI_nat (j := 0) rfl, rfl, _, rfl, ifF (by decide +kernel) ?_⟩
      have hl := TM.line t
      have hln := bln t
      refine ⟨_, rfl, _, rfl, a, _, _, _, rfl, rfl, SqT.of ha, atI_nat (j := 1) rfl, M.dm, _, rfl, mg_line hd t, ?_⟩
      refine ⟨_, rfl, _, _, rfl, .inl (SqL.of hl), _, rfl, a, _, _, _, rfl, rfl, SqT.of ha, atI_nat (j := 0) rfl, rfl, _, rfl, ifF (by decide +kernel) ?_⟩
      refine ⟨_, rfl, a, _, _, _, rfl, rfl, SqT.of ha, atI_nat (j := 2) rfl, _, _, rfl, rfl, _, rfl, ?_⟩
      rw [List.length_map]
      by_cases c : i < (line st t).length
      · refine ifF (decide_eq_false (by omega)) ?_
        have e : stepS w g st sp (.rept t i) = (rept st t i, sp, .non) := if_pos c
        rw [e] at k
        refine ⟨_, rfl, a, _, _, _, rfl, rfl, SqT.of ha, atI_nat (j := 0) rfl, rfl, _, rfl, ifF (by decide +kernel) ?_⟩
        refine ⟨_, rfl, a, _, _, _, rfl, rfl, SqT.of ha, atI_nat (j := 0) rfl, rfl, _, rfl, ifF (by decide +kernel) ?_⟩
        refine ⟨_, rfl, a, _, _, _, rfl, rfl, SqT.of ha, atI_nat (j := 0) rfl, rfl, _, rfl, ifT (by decide +kernel) ?_⟩
        refine ⟨_, rfl, _, _, rfl, .inl (SqL.of hl), _, _, rfl, rfl, _, rfl, ?_⟩
        rw [List.length_map]
        by_cases c40 : (line st t).length < 40
        · refine ifT (decide_eq_true (by omega)) ?_
          refine ⟨_, rfl, _, rfl, a, _, _, _, rfl, rfl, SqT.of ha, atI_nat (j := 2) rfl, _, _, rfl, rfl, (i : Int) + 1, rfl, _, _, rfl, SqL.of hl, fun q1 hq1 => ?_⟩
          have s1 := Same.new (Same.refl H) hq1 (o := .lst (cutV ((line st t).map vb) none (some ((i : Int) + 1))))
          refine ⟨_, rfl, _, rfl, a, _, _, _, rfl, rfl, SqT.of (s1 _ _ ha), atI_nat (j := 2) rfl, (i : Int), rfl, _, _, rfl, SqL.of (s1 _ _ hl), fun q2 hq2 => ?_⟩
          have s2 := Same.new s1 hq2 (o := .lst (cutV ((line st t).map vb) (some (i : Int)) none))
          have n12 : q1 ≠ q2 := ne_of_none upd_same hq2
          refine ⟨q1, q2, _, _, rfl, rfl, by rw [upd_ne n12]; exact upd_same, upd_same, ?_, fun q3 hq3 => ?_⟩
          · have := cutV_length ((line st t).map vb) none (some ((i : Int) + 1))
            have := cutV_length ((line st t).map vb) (some (i : Int)) none
            rw [List.length_map] at *
            exact line_pos (by omega)
          have s3 := Same.new s2 hq3 (o := .lst (cutV ((line st t).map vb) none (some ((i : Int) + 1)) ++ cutV ((line st t).map vb) (some (i : Int)) none))
          have e1 : (i : Int) + 1 = ((i + 1 : Nat) : Int) := by omega
          have ec : cutV ((line st t).map vb) none (some ((i : Int) + 1)) ++ cutV ((line st t).map vb) (some (i : Int)) none = (twice (line st t) i).map vb := by
            rw [e1, cutV_to, cutV_from]
            unfold twice
            rw [if_pos c40, List.map_append, List.map_take, List.map_drop]
          have hq3' : H q3 = none := by
            cases e : H q3 with
            | none => rfl
            | some o => have := s2 _ _ e; rw [this] at hq3; cases hq3
          refine ⟨_, rfl, _, rfl, a, _, _, _, rfl, rfl, SqT.of (s3 _ _ ha), atI_nat (j := 1) rfl, M.dm, _, rfl, DPut.k (k := Sum.inr (ws t)) (s3 _ _ hd) l8, ?_⟩
          rw [put_A]
          exact k _ _ (TM.lineStp s3 t (bl := twice (line st t) i) (by rw [upd_same, ec]) (.inr hq3'))
        · refine ifF (decide_eq_false (by omega)) ?_
          have et : twice (line st t) i = line st t := if_neg c40
          refine ⟨_, rfl, _, rfl, _, rfl, a, _, _, _, rfl, rfl, SqT.of ha, atI_nat (j := 1) rfl, M.dm, _, rfl, DPut.k (k := Sum.inr (ws t)) hd l8, ?_⟩
          rw [put_A]
          have X := TM.lineStp (Same.refl H) t (l := sel t M.lA M.lB) (bl := twice (line st t) i) (by rw [et]; exact hl) (.inl (by cases t <;> simp [sel, MA.all]))
          exact k _ _ X
      · refine ifT (decide_eq_true (by omega)) ?_
        have e : stepS w g st sp (.rept t i) = (st, sp, .str "nothing there") := if_neg c
        rw [e] at k
        exact k H M (MStp.refl TM)
    | @damage t i f p ha =>
      refine ⟨_, rfl, a, _, _, _, rfl, rfl, SqT.of ha, atI_nat (j := 0) rfl, rfl, _, rfl, ifF (by decide +kernel) ?_⟩
      refine ⟨_, rfl, a, _, _, _, rfl, rfl, SqT.of ha, atI_nat (j := 0) rfl, rfl, _, rfl, ifF (by decide +kernel) ?_⟩
      have hl := TM.line t
      have hln := bln t
      refine ⟨_, rfl, _, rfl, a, _, _, _, rfl, rfl, SqT.of ha, atI_nat (j := 1) rfl, M.dm, _, rfl, mg_line hd t, ?_⟩
      refine ⟨_, rfl, _, _, rfl, .inl (SqL.of hl), _, rfl, a, _, _, _, rfl, rfl, SqT.of ha, atI_nat (j := 0) rfl, rfl, _, rfl, ifF (by decide +kernel) ?_⟩
      refine ⟨_, rfl, a, _, _, _, rfl, rfl, SqT.of ha, atI_nat (j := 2) rfl, _, _, rfl, rfl, _, rfl, ?_⟩
      rw [List.length_map]
      have hp9 : p.length ≤ 9 := by have h1 := hW.1; have h2 := b1.hi; omega
      have hf20 := hW.2
      by_cases c : i < (line st t).length
      · refine ifF (decide_eq_false (by omega)) ?_
        obtain ⟨b, hb⟩ : ∃ b, (line st t)[i]? = some b := ⟨(line st t)[i], List.getElem?_eq_getElem c⟩
        have ed : (line st t).getD i [] = b := by simp [List.getD, hb]
        have lb := b9 t b (List.mem_of_getElem? hb)
        have lbs := bs_length b
        have lps := bs_length p
        have e0 : stepS w g st sp (.damage t i f p) = (if p = [] ∨ b.length < f + p.length then (st, sp, .str "pattern does not fit") else (spoil st t i f p, sp ++ [damaged b f p], .non)) := by
          rw [← ed]
          exact if_pos c
        refine ⟨_, rfl, a, _, _, _, rfl, rfl, SqT.of ha, atI_nat (j := 0) rfl, rfl, _, rfl, ifF (by decide +kernel) ?_⟩
        refine ⟨_, rfl, a, _, _, _, rfl, rfl, SqT.of ha, atI_nat (j := 0) rfl, rfl, _, rfl, ifF (by decide +kernel) ?_⟩
        refine ⟨_, rfl, a, _, _, _, rfl, rfl, SqT.of ha, atI_nat (j := 0) rfl, rfl, _, rfl, ifF (by decide +kernel) ?_⟩
        refine ⟨_, rfl, _, rfl, a, _, _, _, rfl, rfl, SqT.of ha, atI_nat (j := 2) rfl, _, _, _, vb b, rfl, rfl, SqL.of hl, map_at hb, ?_⟩
        refine ⟨_, rfl, a, _, _, _, rfl, rfl, SqT.of ha, atI_nat (j := 3) rfl, _, rfl, a, _, _, _, rfl, rfl, SqT.of ha, atI_nat (j := 4) rfl, bs p, rfl, line_pos (by omega), _, _, rfl, rfl, ?_⟩
        refine ⟨_, rfl, a, _, _, _, rfl, rfl, SqT.of ha, atI_nat (j := 4) rfl, rfl, _, rfl, ?_⟩
        have e6 : (f : Int) + ((bs p).length : Int) = ((f + p.length : Nat) : Int) := by rw [lps]; omega
        by_cases c1 : p = []
        · refine ifT (decide_eq_true (by rw [c1]; exact congrArg V.str bs_nil)) (iteT ?_)
          rw [e0, if_pos (.inl c1)] at k
          exact k H M (MStp.refl TM)
        · refine ifF (decide_eq_false fun z => ?_) ?_
          · have z' : V.str (bs p) = V.str "" := z
            injection z' with z'
            rw [← bs_nil] at z'
            exact c1 (bs_inj z')
          refine ⟨_, rfl, _, rfl, bs b, rfl, line_pos (by omega), _, _, rfl, rfl, _, rfl, ?_⟩
          rw [e6, lbs]
          by_cases c2 : b.length < f + p.length
          · refine ifT (decide_eq_true (by omega)) ?_
            rw [e0, if_pos (.inr c2)] at k
            exact k H M (MStp.refl TM)
          · refine ifF (decide_eq_false (by omega)) ?_
            rw [e0, if_neg (fun z => z.elim c1 c2)] at k
            refine ⟨_, rfl, _, rfl, a, _, _, _, rfl, rfl, SqT.of ha, atI_nat (j := 3) rfl, _, rfl, bs b, rfl, line_pos (by omega), ?_⟩
            rw [cut_bs_to]
            refine ⟨_, rfl, _, rfl, a, _, _, _, rfl, rfl, SqT.of ha, atI_nat (j := 3) rfl, _, rfl, _, rfl, _, rfl, bs b, rfl, line_pos (by omega), ?_⟩
            rw [e6, cut_bs]
            have e7 : f + p.length - f = p.length := by omega
            rw [e7]
            refine ⟨_, rfl, a, _, _, _, rfl, rfl, SqT.of ha, atI_nat (j := 4) rfl, (b.drop f).take p.length, p, rfl, ?_, ?_, fun H1 s1 => ?_⟩
            · rw [List.length_take, List.length_drop]; omega
            · rw [List.length_take, List.length_drop]; omega
            have lx : (xorB ((b.drop f).take p.length) p).length = p.length := by
              unfold xorB
              rw [List.length_zipWith, List.length_take, List.length_drop]; omega
            refine ⟨_, _, rfl, rfl, ?_, _, rfl, _, rfl, _, rfl, bs b, rfl, line_pos (by omega), ?_⟩
            · rw [bs_length, bs_length, lx, List.length_take]
              exact line_pos (by omega)
            rw [e6, cut_bs_from]
            refine ⟨_, _, rfl, rfl, ?_, ?_⟩
            · rw [← bs_append, bs_length, bs_length, List.length_append, lx, List.length_take, List.length_drop]
              exact line_pos (by omega)
            have ev : vb (damaged b f p) = V.str (bs (b.take f) ++ bs (xorB ((b.drop f).take p.length) p) ++ bs (b.drop (f + p.length))) := by
              unfold damaged vb
              rw [bs_append, bs_append]
              exact congrArg V.str (TL.ext_tl (by simp only [TL.tl_append, List.append_assoc]))
            rw [← ev]
            -- spoilt
            have T1 := TM.same s1
            refine ⟨_, rfl, M.dm, _, rfl, mg_s T1.d, _, rfl, l1, fun q hq => ?_⟩
            have s2 := Same.new s1 hq (o := .lst [vb (damaged b f p)])
            refine ⟨M.lS, q, _, _, rfl, rfl, s2 _ _ TM.sp, upd_same, ?_, fun q2 hq2 => ?_⟩
            · rw [List.length_map]; exact line_pos (by simp only [List.length_cons, List.length_nil]; omega)
            have s3 := Same.new s2 hq2 (o := .lst (sp.map vb ++ [vb (damaged b f p)]))
            refine ⟨_, rfl, M.dm, _, rfl, DPut.k (k := Sum.inr ("spoilt" : Str)) (s3 _ _ hd) l8, ?_⟩
            rw [put_S]
            have T3 := TM.same s3
            have hq2H : H q2 = none := by
              cases e : H q2 with
              | none => rfl
              | some o => rw [s2 _ _ e] at hq2; cases hq2
            have X3 : MStp w g H M (upd (upd (upd H1 q (.lst [vb (damaged b f p)])) q2 (.lst (sp.map vb ++ [vb (damaged b f p)]))) M.dm (.dK (mdl w g { M with lS := q2 } st.known))) { M with lS := q2 } st (sp ++ [damaged b f p]) := by
              refine ⟨MAt.put (M1 := { M with lS := q2 }) (s1 := st) T3.d T3.ls T3.tk T3.th T3.bk (by rw [upd_same, List.map_append]; rfl) rfl, (Kp.same s3).trans T3.kp, rfl, fun b' hb' => ?_⟩
              simp only [MA.all, List.mem_cons, List.not_mem_nil, or_false] at hb'
              rcases hb' with h | h | h | h | h
              · exact .inl (by rw [h]; simp [MA.all])
              · exact .inl (by rw [h]; simp [MA.all])
              · exact .inl (by rw [h]; simp [MA.all])
              · exact .inl (by rw [h]; simp [MA.all])
              · exact .inr (by rw [h]; exact hq2H)
            generalize upd (upd (upd H1 q (.lst [vb (damaged b f p)])) q2 (.lst (sp.map vb ++ [vb (damaged b f p)]))) M.dm (.dK (mdl w g { M with lS := q2 } st.known)) = H3 at X3
            have ha3 := X3.kp.tups _ _ ha
            generalize hM3 : ({ M with lS := q2 } : MA) = M3 at X3
            have T5 := X3.ok
            have em := congrArg V.ref X3.dm.symm
            have esel : sel t M.lA M.lB = sel t M3.lA M3.lB := by rw [← hM3]
            have hl3 := T5.line t
            rw [← esel] at hl3
            have e1 : (i : Int) + 1 = ((i + 1 : Nat) : Int) := by omega
            refine ⟨_, rfl, _, rfl, a, _, _, _, rfl, rfl, SqT.of ha3, atI_nat (j := 2) rfl, (i : Int), rfl, _, _, rfl, SqL.of hl3, fun r1 hr1 => ?_⟩
            have z1 := Same.new (Same.refl H3) hr1 (o := .lst (cutV ((line st t).map vb) none (some (i : Int))))
            refine ⟨_, rfl, l1, fun r2 hr2 => ?_⟩
            have z2 := Same.new z1 hr2 (o := .lst [vb (damaged b f p)])
            have n12 : r1 ≠ r2 := ne_of_none upd_same hr2
            refine ⟨r1, r2, _, _, rfl, rfl, by rw [upd_ne n12]; exact upd_same, upd_same, ?_, fun r3 hr3 => ?_⟩
            · have := cutV_length ((line st t).map vb) none (some (i : Int))
              rw [List.length_map] at this
              exact line_pos (by simp only [List.length_cons, List.length_nil]; omega)
            have z3 := Same.new z2 hr3 (o := .lst (cutV ((line st t).map vb) none (some (i : Int)) ++ [vb (damaged b f p)]))
            refine ⟨_, rfl, _, rfl, a, _, _, _, rfl, rfl, SqT.of (z3 _ _ ha3), atI_nat (j := 2) rfl, _, _, rfl, rfl, (i : Int) + 1, rfl, _, _, rfl, SqL.of (z3 _ _ hl3), fun r4 hr4 => ?_⟩
            have z4 := Same.new z3 hr4 (o := .lst (cutV ((line st t).map vb) (some ((i : Int) + 1)) none))
            have n34 : r3 ≠ r4 := ne_of_none upd_same hr4
            refine ⟨r3, r4, _, _, rfl, rfl, by rw [upd_ne n34]; exact upd_same, upd_same, ?_, fun r5 hr5 => ?_⟩
            · have h1 := cutV_length ((line st t).map vb) none (some (i : Int))
              have h2 := cutV_length ((line st t).map vb) (some ((i : Int) + 1)) none
              rw [List.length_map] at h1 h2
              rw [List.length_append]
              exact line_pos (by simp only [List.length_cons, List.length_nil]; omega)
            have z5 := Same.new z4 hr5 (o := .lst (cutV ((line st t).map vb) none (some (i : Int)) ++ [vb (damaged b f p)] ++ cutV ((line st t).map vb) (some ((i : Int) + 1)) none))
            have ec : cutV ((line st t).map vb) none (some (i : Int)) ++ [vb (damaged b f p)] ++ cutV ((line st t).map vb) (some ((i : Int) + 1)) none = ((line st t).set i (damaged b f p)).map vb := by
              rw [e1, cutV_to, cutV_from, ← cut_set c, List.map_append, List.map_append, List.map_take, List.map_drop]
              rfl
            have hr5' : H3 r5 = none := by
              cases e : H3 r5 with
              | none => rfl
              | some o => rw [z4 _ _ e] at hr5; cases hr5
            refine ⟨_, rfl, _, rfl, a, _, _, _, rfl, rfl, SqT.of (z5 _ _ ha3), atI_nat (j := 1) rfl, M3.dm, _, em, DPut.k (k := Sum.inr (ws t)) (z5 _ _ T5.d) l8, ?_⟩
            rw [put_A]
            have Y := X3.trans (T5.lineStp z5 t (bl := (line st t).set i (damaged b f p)) (by rw [upd_same, ec]) (.inr hr5'))
            have es : spoil st t i f p = setLine st t ((line st t).set i (damaged b f p)) := by unfold spoil; rw [ed]
            rw [← es] at Y
            exact k _ _ Y
      · refine ifT (decide_eq_true (by omega)) ?_
        have e : stepS w g st sp (.damage t i f p) = (st, sp, .str "nothing there") := if_neg c
        rw [e] at k
        exact k H M (MStp.refl TM)
end
end Tk
end

section
set_option Elab.async false
set_option maxRecDepth 100000
set_option maxHeartbeats 4000000
set_option linter.unusedVariables false
/-! The law tells the talk a deed. -/
namespace Tk
open PySem PySem.Spec PyProof.Rows L2
/-- a method called within a try: what it raises is wished for at the slots as they stand -/
def tMtS (C : Addr) (m : Str) (sp : Sp) (E : L2.St → XK) (ta : TE) (t : L2.TA) : TE := fun σ H Q => ta σ H fun x H1 => ∃ a dx fs, x = .ref a ∧ H1 a = some (.ins C dx fs) ∧ fs.lookup m = none ∧ t σ H1 fun vs H2 => sp (x :: vs) H2 Q (E σ)
theorem pe_mtS {X : Cx} {CX : CXT} {k j : Nat} {C : Addr} {sp : Sp} {E : L2.St → XK} {m : Str} {pos apos : Pos} {e o : Expr} {es : List Expr} {ta : TE} {t : L2.TA} {pl : Sem Bool} (c : Met X.prog X.w X.K X.mg X.base CX k C m sp) (hr : Room j X.A)
    (hx : ∀ σ, PassesAt CX X σ (E σ)) (he : PE X o ta) (ha : PA X (e :: es) t) (hk : k ≤ j := by decide)
    (hst : starEach (e :: es) X.env = (false, eval e X.env) :: starEach es X.env := by rfl) (hpl : (backTo pos (starEach es X.env)).any (·.1) = false := by rfl)
    (ht : eval (.Call (.Attribute o m apos) (e :: es) [] pos) X.env = (do
      let ov ← eval o X.env
      standAt apos.atName
      let (f, first) ← holding [ov] (getMethod ov m pl)
      callWith pos f first (backTo pos (starEach (e :: es) X.env)) (backToKw pos (keywordEach [] X.env))) := by rfl) :
    PE X (.Call (.Attribute o m apos) (e :: es) [] pos) (tMtS C m sp E ta t) := by
  obtain ⟨f, fd, ps, hc, hm, F, b⟩ := c.ex
  refine ⟨fun pins s σ H Q I h => ?_⟩
  refine PySem.W.methodCall_KW (pl := pl) (thn (he.run pins s σ H _ I h) fun u s1 ⟨x, H1, I1, rx, a, dx, fs, ex, ea, l, q⟩ => ?_) ht
  subst ex
  obtain rfl : u = Value.ref a := rx
  refine getmeth_ok I1 ea hc hm l ?_
  refine PySem.W.callWith_K (first := [.ref a]) (h₀ := X.base) I.ok.mod.kin hm.kp (thn (ha.run pos pins s1 σ H1 _ I1 q) fun us s2 ⟨vs, H2, I2, r, q2⟩ => ⟨I2.kIn, ?_⟩) hst hpl
  exact run_fnS (us := .ref a :: us) (vs := .ref a :: vs) F (hr.mono hk) b (hx σ) I2 (.cons rfl r) q2
abbrev sTold : Stmt := top_ 33
def tI (K : PySem.W.Frag) (j : Int) : TE := tOp (rIxT K) (tVar 1) (tC (.int j))
def tKd (K : PySem.W.Frag) (x : Str) : TT := tTest (tOp rEq (tI K 0) (tC (.str x)))
def tTold (K : PySem.W.Frag) (c : Cs) (CR : Addr) (W : WX) : TS :=
  tSeq (tIfS (tKd K "queue") (tRet (tMeth c.T "queue" (spTQ c) [] E0 (tVar 0) (tCons (tI K 1) tNil))) tNext)
  (tSeq (tIfS (tKd K "send") (tRet (tMeth c.T "send" (spTS c) [] E0 (tVar 0) tNil)) tNext)
  (tSeq (tIfS (tKd K "deliver") (tRet (tMtS c.T "deliver" (spTV c CR) (WE W) (tVar 0) (tCons (tI K 1) tNil))) tNext)
  (tSeq (tIfS (tKd K "lose") (tRet (tMtS c.T "lose" (spTO c CR) (WE W) (tVar 0) (tCons (tI K 1) (tCons (tI K 2) tNil)))) tNext)
  (tSeq (tIfS (tKd K "repeat") (tRet (tMtS c.T "repeat" (spTR c CR) (WE W) (tVar 0) (tCons (tI K 1) (tCons (tI K 2) tNil)))) tNext)
  (tRet (tMtS c.T "damage" (spTD c CR) (WE W) (tVar 0) (tCons (tI K 1) (tCons (tI K 2) (tCons (tI K 3) (tCons (tI K 4) tNil))))))))))
def spTo (c : Cs) : Sp := fun vs H Q _ => ∃ (A : TA) (s : St) (sp : List Bits) (w : Nat) (g : Bits) (d : Deed) (a : Addr), vs = [.ref A.tk, .ref a] ∧ TalkAt c w g H A s ∧ DAt H a d ∧ Bnd w g s sp ∧ Wf g d ∧ s.letters.length < 60 ∧
  ∀ H' A', Stp c w g H A H' A' (stepS w g s sp d).1 → Q (stepS w g s sp d).2.2.v H'
section
variable {P : Program} {w : World} {K : PySem.W.Frag} {mg : Str → Option Value} {base : Heap} {c : Cs} {CR fR : Addr}
theorem scTold : FnScope ["_law_talk", "_law_deed_here", "e"] ["_law_talk", "_law_deed_here"] (defScope sTold) := ⟨rfl, rfl, rfl, by decide +kernel, rfl, by decide +kernel, by decide +kernel⟩
theorem ok_told {f : Addr} {fd : FuncData} (D : Def K mg "_law_told" sTold ["_law_talk", "_law_deed_here"] f fd) (TR : PySem.RefX.RefTxt P K mg CR fR)
    (mQ : Met P w K mg base CX0 2 c.T "queue" (spTQ c)) (mS : Met P w K mg base CX0 7 c.T "send" (spTS c)) (mV : Met P w K mg base (L2.CX P w) 7 c.T "deliver" (spTV c CR)) (mO : Met P w K mg base (L2.CX P w) 2 c.T "lose" (spTO c CR))
    (mR : Met P w K mg base (L2.CX P w) 2 c.T "repeat" (spTR c CR)) (mD : Met P w K mg base (L2.CX P w) 2 c.T "damage" (spTD c CR)) : FnOk P w K mg base CX0 8 f fd ["_law_talk", "_law_deed_here"] (spTo c) := by
  refine D.fn.ok scTold (fun vs H Q E h => ?_) (fun cdv A outer s H vs Q E hr h => ?_)
  · obtain ⟨A, s, sp, w, g, d, a, rfl, _⟩ := h
    rfl
  · obtain ⟨B, st, sp, w, g, d, a, rfl, TT, hD, Bn, hW, h60, k⟩ := h
    refine ⟨_, pss_one (ps_try_as (i := 2) (tb := tTold K c CR) (ts := fun a cls d => tRet (tByRef CR a cls d (tVar 2))) (Wout := fun _ _ _ _ => False) rfl rfl scTold.nd rfl rfl ⟨rfl, by decide, Or.inl TR.gC⟩ takes0
      (fun W pn xe tk _ => by exact (
        pss_cons (ps_if (pt_cmpR op_eq (pe_ix ix_tup (pv 1) pe_int (fun _ _ => rfl)) pe_str (nomark _)) (pss_one (ps_ret (pe_mt mQ hr pass0 (pv 0) (pa_cons (pe_ix ix_tup (pv 1) pe_int (fun _ _ => rfl)) pa_nil)))) pss_nil)
        (pss_cons (ps_if (pt_cmpR op_eq (pe_ix ix_tup (pv 1) pe_int (fun _ _ => rfl)) pe_str (nomark _)) (pss_one (ps_ret (pe_mt0 mS hr pass0 (pv 0)))) pss_nil)
        (pss_cons (ps_if (pt_cmpR op_eq (pe_ix ix_tup (pv 1) pe_int (fun _ _ => rfl)) pe_str (nomark _)) (pss_one (ps_ret (pe_mtS mV hr (fun σ => passAt tk σ) (pv 0) (pa_cons (pe_ix ix_tup (pv 1) pe_int (fun _ _ => rfl)) pa_nil)))) pss_nil)
        (pss_cons (ps_if (pt_cmpR op_eq (pe_ix ix_tup (pv 1) pe_int (fun _ _ => rfl)) pe_str (nomark _)) (pss_one (ps_ret (pe_mtS mO hr (fun σ => passAt tk σ) (pv 0) (pa_cons (pe_ix ix_tup (pv 1) pe_int (fun _ _ => rfl)) (pa_cons (pe_ix ix_tup (pv 1) pe_int (fun _ _ => rfl)) pa_nil))))) pss_nil)
        (pss_cons (ps_if (pt_cmpR op_eq (pe_ix ix_tup (pv 1) pe_int (fun _ _ => rfl)) pe_str (nomark _)) (pss_one (ps_ret (pe_mtS mR hr (fun σ => passAt tk σ) (pv 0) (pa_cons (pe_ix ix_tup (pv 1) pe_int (fun _ _ => rfl)) (pa_cons (pe_ix ix_tup (pv 1) pe_int (fun _ _ => rfl)) pa_nil))))) pss_nil)
        (pss_one (ps_ret (pe_mtS mD hr (fun σ => passAt tk σ) (pv 0) (pa_cons (pe_ix ix_tup (pv 1) pe_int (fun _ _ => rfl)) (pa_cons (pe_ix ix_tup (pv 1) pe_int (fun _ _ => rfl)) (pa_cons (pe_ix ix_tup (pv 1) pe_int (fun _ _ => rfl)) (pa_cons (pe_ix ix_tup (pv 1) pe_int (fun _ _ => rfl)) pa_nil)))))))))))))
      (fun a oe cls d pn hz hf => by exact (pss_one (ps_ret (pe_byRef TR hz hf (pv 2)))))), ?_⟩
    obtain ⟨dx, h1⟩ := TT.ob
    obtain ⟨b1, b2, b3, b4, b5, b6, b7, b8, b9, b10⟩ := id Bn
    have bln := Bn.ln
    have err : ∀ (m : Str) (v : V) (D : Ends) (σ : L2.St), σ.length = 3 → (∀ d, Q (.str m) (upd H d (.xd [("what", .str m)])) ∨ H d ≠ none) → D.rt = Q → Rai CR (WE (wAs K (.ref CR) 2 (fun a cls d => tRet (tByRef CR a cls d (tVar 2))) (fun _ _ _ _ => False) D) σ) H m := fun m v D σ hσ hq hD d hd => by
      refine ⟨true, TR.te, fun _ a0 _ => ?_, fun q => Bool.noConfusion q⟩
      refine ⟨.ref a0, ?_, rfl, rfl, d, .str m, rfl, upd_same, ?_⟩
      · rw [List.getElem?_set_self (by omega)]
      · show D.rt (.str m) _
        rw [hD]
        rcases hq d with h | h
        · exact h
        · exact absurd hd h
    have errs : ∀ (m : Str), (∀ H', Same H H' → Q (.str m) H') → ∀ d, Q (.str m) (upd H d (.xd [("what", .str m)])) ∨ H d ≠ none := fun m h d => by
      by_cases c : H d = none
      · exact .inl (h _ (Same.new (Same.refl H) c))
      · exact .inr c
    cases hD with
    | @queue x b ha hb =>
      refine ⟨_, rfl, a, _, _, _, rfl, rfl, SqT.of ha, atI_nat (j := 0) rfl, rfl, _, rfl, ifT (by decide +kernel) ?_⟩
      exact ⟨_, rfl, B.tk, dx, _, rfl, h1, tf_no (by decide +kernel), _, rfl, a, _, _, _, rfl, rfl, SqT.of ha, atI_nat (j := 1) rfl, B, st, w, g, b, x, rfl, TT, hb, h60, fun H' X => k H' B X⟩
    | send ha =>
      refine ⟨_, rfl, a, _, _, _, rfl, rfl, SqT.of ha, atI_nat (j := 0) rfl, rfl, _, rfl, ifF (by decide +kernel) ?_⟩
      refine ⟨_, rfl, a, _, _, _, rfl, rfl, SqT.of ha, atI_nat (j := 0) rfl, rfl, _, rfl, ifT (by decide +kernel) ?_⟩
      exact ⟨_, rfl, B.tk, dx, _, rfl, h1, tf_no (by decide +kernel), B, st, w, g, rfl, TT, b1, b2, b3, by omega, b6, b7, fun H' X => k H' B X⟩
    | @deliver t ha =>
      refine ⟨_, rfl, a, _, _, _, rfl, rfl, SqT.of ha, atI_nat (j := 0) rfl, rfl, _, rfl, ifF (by decide +kernel) ?_⟩
      refine ⟨_, rfl, a, _, _, _, rfl, rfl, SqT.of ha, atI_nat (j := 0) rfl, rfl, _, rfl, ifF (by decide +kernel) ?_⟩
      refine ⟨_, rfl, a, _, _, _, rfl, rfl, SqT.of ha, atI_nat (j := 0) rfl, rfl, _, rfl, ifT (by decide +kernel) ?_⟩
      have hln := bln t
      refine ⟨_, rfl, B.tk, dx, _, rfl, h1, tf_no (by decide +kernel), _, rfl, a, _, _, _, rfl, rfl, SqT.of ha, atI_nat (j := 1) rfl, B, st, w, g, t, rfl, TT, b1, b2, b3, by omega, by omega, by omega, by omega, fun b hb => by have := b9 t b hb; omega, fun hne => ?_, fun he => ?_⟩
      · have e : stepS w g st sp (.deliver t) = ((if t = true then delT w g st else delB w g st), sp, .non) := if_neg hne
        rw [e] at k
        exact fun H' X => k H' B X
      · have e : stepS w g st sp (.deliver t) = (st, sp, .str "nothing there") := if_pos he
        rw [e] at k
        exact err _ .non _ _ rfl (errs _ fun H' h => k H' B ((Stp.refl TT).same h)) rfl
    | @lose t i ha =>
      refine ⟨_, rfl, a, _, _, _, rfl, rfl, SqT.of ha, atI_nat (j := 0) rfl, rfl, _, rfl, ifF (by decide +kernel) ?_⟩
      refine ⟨_, rfl, a, _, _, _, rfl, rfl, SqT.of ha, atI_nat (j := 0) rfl, rfl, _, rfl, ifF (by decide +kernel) ?_⟩
      refine ⟨_, rfl, a, _, _, _, rfl, rfl, SqT.of ha, atI_nat (j := 0) rfl, rfl, _, rfl, ifF (by decide +kernel) ?_⟩
      refine ⟨_, rfl, a, _, _, _, rfl, rfl, SqT.of ha, atI_nat (j := 0) rfl, rfl, _, rfl, ifT (by decide +kernel) ?_⟩
      have hln := bln t
      refine ⟨_, rfl, B.tk, dx, _, rfl, h1, tf_no (by decide +kernel), _, rfl, a, _, _, _, rfl, rfl, SqT.of ha, atI_nat (j := 1) rfl, _, rfl, a, _, _, _, rfl, rfl, SqT.of ha, atI_nat (j := 2) rfl, B, st, w, g, t, i, rfl, TT, by omega, fun hi => ?_, fun hi => ?_⟩
      · have e : stepS w g st sp (.lose t i) = (lose st t i, sp, .non) := if_pos hi
        rw [e] at k
        exact fun H' X => k H' B X
      · have e : stepS w g st sp (.lose t i) = (st, sp, .str "nothing there") := if_neg hi
        rw [e] at k
        exact err _ .non _ _ rfl (errs _ fun H' h => k H' B ((Stp.refl TT).same h)) rfl
    | @rept t i ha =>
      refine ⟨_, rfl, a, _, _, _, rfl, rfl, SqT.of ha, atI_nat (j := 0) rfl, rfl, _, rfl, ifF (by decide +kernel) ?_⟩
      refine ⟨_, rfl, a, _, _, _, rfl, rfl, SqT.of ha, atI_nat (j := 0) rfl, rfl, _, rfl, ifF (by decide +kernel) ?_⟩
      refine ⟨_, rfl, a, _, _, _, rfl, rfl, SqT.of ha, atI_nat (j := 0) rfl, rfl, _, rfl, ifF (by decide +kernel) ?_⟩
      refine ⟨_, rfl, a, _, _, _, rfl, rfl, SqT.of ha, atI_nat (j := 0) rfl, rfl, _, rfl, ifF (by decide +kernel) ?_⟩
      refine ⟨_, rfl, a, _, _, _, rfl, rfl, SqT.of ha, atI_nat (j := 0) rfl, rfl, _, rfl, ifT (by decide +kernel) ?_⟩
      have hln := bln t
      refine ⟨_, rfl, B.tk, dx, _, rfl, h1, tf_no (by decide +kernel), _, rfl, a, _, _, _, rfl, rfl, SqT.of ha, atI_nat (j := 1) rfl, _, rfl, a, _, _, _, rfl, rfl, SqT.of ha, atI_nat (j := 2) rfl, B, st, w, g, t, i, rfl, TT, by omega, fun hi => ?_, fun hi => ?_⟩
      · have e : stepS w g st sp (.rept t i) = (rept st t i, sp, .non) := if_pos hi
        rw [e] at k
        exact fun H' A' X => k H' A' X
      · have e : stepS w g st sp (.rept t i) = (st, sp, .str "nothing there") := if_neg hi
        rw [e] at k
        exact err _ .non _ _ rfl (errs _ fun H' h => k H' B ((Stp.refl TT).same h)) rfl
    | @damage t i f p ha =>
      refine ⟨_, rfl, a, _, _, _, rfl, rfl, SqT.of ha, atI_nat (j := 0) rfl, rfl, _, rfl, ifF (by decide +kernel) ?_⟩
      refine ⟨_, rfl, a, _, _, _, rfl, rfl, SqT.of ha, atI_nat (j := 0) rfl, rfl, _, rfl, ifF (by decide +kernel) ?_⟩
      refine ⟨_, rfl, a, _, _, _, rfl, rfl, SqT.of ha, atI_nat (j := 0) rfl, rfl, _, rfl, ifF (by decide +kernel) ?_⟩
      refine ⟨_, rfl, a, _, _, _, rfl, rfl, SqT.of ha, atI_nat (j := 0) rfl, rfl, _, rfl, ifF (by decide +kernel) ?_⟩
      refine ⟨_, rfl, a, _, _, _, rfl, rfl, SqT.of ha, atI_nat (j := 0) rfl, rfl, _, rfl, ifF (by decide +kernel) ?_⟩
      have hln := bln t
      have hp9 : p.length ≤ 9 := by have h1 := hW.1; have h2 := b1.hi; omega
      have gd : ∀ b, (line st t)[i]? = some b → i < (line st t).length ∧ (line st t).getD i [] = b := fun b hb => ⟨(List.getElem?_eq_some_iff.mp hb).1, by simp [List.getD, hb]⟩
      refine ⟨_, rfl, B.tk, dx, _, rfl, h1, tf_no (by decide +kernel), _, rfl, a, _, _, _, rfl, rfl, SqT.of ha, atI_nat (j := 1) rfl, _, rfl, a, _, _, _, rfl, rfl, SqT.of ha, atI_nat (j := 2) rfl, _, rfl, a, _, _, _, rfl, rfl, SqT.of ha, atI_nat (j := 3) rfl, _, rfl, a, _, _, _, rfl, rfl, SqT.of ha, atI_nat (j := 4) rfl, B, st, w, g, t, i, f, p, rfl, TT, by omega, fun b hb => by have := b9 t b hb; omega, by omega, fun b hb hn => ?_, fun b hb hn => ?_, fun hi => ?_⟩
      · obtain ⟨hi, ed⟩ := gd b hb
        have e : stepS w g st sp (.damage t i f p) = (spoil st t i f p, sp ++ [damaged b f p], .non) := by
          rw [← ed] at hn ⊢
          exact (if_pos hi).trans (if_neg hn)
        rw [e] at k
        exact fun H' X => k H' B X
      · obtain ⟨hi, ed⟩ := gd b hb
        have e : stepS w g st sp (.damage t i f p) = (st, sp, .str "pattern does not fit") := by
          rw [← ed] at hn
          exact (if_pos hi).trans (if_pos hn)
        rw [e] at k
        exact err _ .non _ _ rfl (errs _ fun H' h => k H' B ((Stp.refl TT).same h)) rfl
      · have e : stepS w g st sp (.damage t i f p) = (st, sp, .str "nothing there") := if_neg hi
        rw [e] at k
        exact err _ .non _ _ rfl (errs _ fun H' h => k H' B ((Stp.refl TT).same h)) rfl
end
end Tk
end

section
set_option Elab.async false
set_option maxRecDepth 100000
set_option maxHeartbeats 4000000
set_option linter.unusedVariables false
/-! The law holds the talk against its model. -/
namespace Tk
open PySem PySem.Spec PyProof.Rows L2
def dS (b : Bits) : PyData := .str (bs b)
def dn (n : Nat) : PyData := .int (n : Int)
def dT (x : List Nat) : PyData := .tuple (x.map dn)
theorem ok_sign (b : Bits) : PySem.PyData.strOk (bs b) = true := by
  show (b.map sg).toArray.all (fun c => decide (c < 0x110000)) = true
  rw [List.all_toArray, List.all_eq_true]
  intro c hc
  obtain ⟨x, _, rfl⟩ := List.mem_map.mp hc
  cases x <;> decide
theorem lay_S : ∀ l : List Bits, (∀ b ∈ l, b.length ≤ 1000) → PyData.canLayAll0 (l.map dS) = true
  | [], _ => by simp [PyData.canLayAll0]
  | b :: l, h => by
    have e := ok_sign b
    simp [PyData.canLayAll0, dS, PyData.canLay0, e, lay_S l fun x hx => h x (List.mem_cons_of_mem _ hx)]
theorem dep_S : ∀ l : List Bits, PyData.depthAll (l.map dS) ≤ 1
  | [] => by simp [PyData.depthAll]
  | b :: l => by
    have h1 := dep_S l
    have h2 : (dS b).depth = 0 := by simp [dS, PyData.depth]
    simp only [List.map_cons, PyData.depthAll]
    omega
theorem sh_S {l : List Bits} (h : ∀ b ∈ l, b.length ≤ 1000) : SeqAt.shaped (.list (l.map dS)) = true := by
  have h1 := dep_S l
  have h2 : PyData.depth (.list (l.map dS)) ≤ 64 := by
    simp only [PyData.depth]
    omega
  show (PyData.canLay0 (.list (l.map dS)) && decide (PyData.depth (.list (l.map dS)) ≤ 64)) = true
  rw [Bool.and_eq_true]
  exact ⟨by simp only [PyData.canLay0]; exact lay_S l h, decide_eq_true h2⟩
theorem lay_i : ∀ x : List Nat, PyData.canLayAll0 (x.map dn) = true
  | [] => by simp [PyData.canLayAll0]
  | n :: x => by
    simp [PyData.canLayAll0, dn, PyData.canLay0, lay_i x]
theorem dep_i : ∀ x : List Nat, PyData.depthAll (x.map dn) ≤ 1
  | [] => by simp [PyData.depthAll]
  | n :: x => by
    have h1 := dep_i x
    have h2 : (dn n).depth = 0 := by simp [dn, PyData.depth]
    simp only [List.map_cons, PyData.depthAll]
    omega
theorem lay_T : ∀ l : List (List Nat), PyData.canLayAll0 (l.map dT) = true
  | [] => by simp [PyData.canLayAll0]
  | x :: l => by
    have h1 := lay_i x
    have h2 : (dT x).canLay0 = true := by simp only [dT, PyData.canLay0]; exact h1
    simp only [List.map_cons, PyData.canLayAll0, h2, lay_T l, Bool.and_self]
theorem dep_T : ∀ l : List (List Nat), PyData.depthAll (l.map dT) ≤ 2
  | [] => by simp [PyData.depthAll]
  | x :: l => by
    have h1 := dep_T l
    have h0 := dep_i x
    have h2 : (dT x).depth ≤ 2 := by simp only [dT, PyData.depth]; omega
    simp only [List.map_cons, PyData.depthAll]
    omega
theorem sh_T (l : List (List Nat)) : SeqAt.shaped (.list (l.map dT)) = true := by
  have h1 := dep_T l
  have h2 : PyData.depth (.list (l.map dT)) ≤ 64 := by
    simp only [PyData.depth]
    omega
  show (PyData.canLay0 (.list (l.map dT)) && decide (PyData.depth (.list (l.map dT)) ≤ 64)) = true
  rw [Bool.and_eq_true]
  exact ⟨by simp only [PyData.canLay0]; exact lay_T l, decide_eq_true h2⟩
section
variable {K : PySem.W.Frag} {H : Hp}
theorem dp_S : ∀ l : List Bits, DpAll K H (l.map vb) (l.map dS)
  | [] => .nil
  | b :: l => .cons (.str (bs b)) (dp_S l)
theorem dp_i : ∀ x : List Nat, DpAll K H (x.map vn) (x.map dn)
  | [] => .nil
  | n :: x => .cons (.int (n : Int)) (dp_i x)
theorem dp_T : ∀ {ls : List (List Nat)} {as : List Addr}, Tups H as ls → DpAll K H (as.map V.ref) (ls.map dT)
  | [], [], _ => .nil
  | [], _ :: _, h => by cases h.1
  | _ :: _, [], h => by cases h.1
  | x :: ls, a :: as, h => by
    obtain ⟨b, e, q⟩ := h.2 0 x rfl
    have e' : a = b := Option.some.inj e
    subst e'
    exact .cons (.tup (SqT.of q) (dp_i x)) (dp_T (ls := ls) (as := as) ⟨Nat.succ.inj h.1, fun i y hy => h.2 (i + 1) y hy⟩)
theorem dpl_S {a : Addr} {l : List Bits} (h : H a = some (.lst (l.map vb))) : Dp K H (.ref a) (.list (l.map dS)) := .lst (SqL.of h) (dp_S l)
theorem dpl_T {a : Addr} {as : List Addr} {ls : List (List Nat)} (h : Lts H a as ls) : Dp K H (.ref a) (.list (ls.map dT)) := .lst (SqL.of h.1) (dp_T h.2)
end
theorem eqv_S {l : List Bits} (h : ∀ b ∈ l, b.length ≤ 1000) : PyData.eqv (.list (l.map dS)) (.list (l.map dS)) = true := SeqAt.eqv_refl _ (SeqAt.canLay_of_shaped (sh_S h))
theorem eqv_T (l : List (List Nat)) : PyData.eqv (.list (l.map dT)) (.list (l.map dT)) = true := SeqAt.eqv_refl _ (SeqAt.canLay_of_shaped (sh_T l))
theorem Tups.take {H : Hp} {as : List Addr} {ls : List (List Nat)} (h : Tups H as ls) (n : Nat) : Tups H (as.take n) (ls.take n) := by
  refine ⟨by rw [List.length_take, List.length_take, h.1], fun i x hx => ?_⟩
  by_cases c : i < n
  · rw [List.getElem?_take_of_lt c] at hx
    obtain ⟨a, e, q⟩ := h.2 i x hx
    exact ⟨a, by rw [List.getElem?_take_of_lt c]; exact e, q⟩
  · rw [List.getElem?_take, if_neg c] at hx
    cases hx
abbrev sIs : Stmt := top_ 36
def spIs (c : Cs) : Sp := fun vs H Q _ => ∃ (A : TA) (M : MA) (s : St) (sp : List Bits) (w : Nat) (g : Bits), vs = [.ref A.tk, .ref M.dm] ∧ TalkAt c w g H A s ∧ MAt w g H M s sp ∧ Bnd w g s sp ∧ s.known ≤ s.taken.length ∧ s.taken = s.letters.take s.taken.length ∧
  ∀ H', Same H H' → Q (.bl true) H'
section
variable {P : Program} {w : World} {K : PySem.W.Frag} {mg : Str → Option Value} {base : Heap} {c : Cs}
theorem scIs : FnScope ["_law_talk", "_law_model", "_law_taken"] ["_law_talk", "_law_model"] (defScope sIs) := ⟨rfl, rfl, rfl, by decide +kernel, rfl, by decide +kernel, by decide +kernel⟩
theorem ok_is {f : Addr} {fd : FuncData} (D : Def K mg "_law_is_it" sIs ["_law_talk", "_law_model"] f fd) (mL : Met P w K mg base CX0 1 c.T "line" (spTL c)) (mT : Met P w K mg base CX0 1 c.T "taken" (spTT c)) (mK : Met P w K mg base CX0 1 c.T "known" (spTK c)) (gL : mg "len" = none) :
    FnOk P w K mg base CX0 2 f fd ["_law_talk", "_law_model"] (spIs c) := by
  refine D.fn.ok scIs (fun vs H Q E h => ?_) (fun cdv A outer s H vs Q E hr h => ?_)
  · obtain ⟨A, M, s, sp, w, g, rfl, _⟩ := h
    rfl
  · obtain ⟨B, M, st, sp, w, g, rfl, TT, TM, Bn, hkt, hpre, k⟩ := h
    refine ⟨_, pss_cons (ps_if (PW.pt (pw_or (pt_cmpR (op_neD hr.units) (pe_mt mL hr pass0 (pv 0) (pa_cons pe_str pa_nil)) (pe_dget (hu_of hr) (pv 1) pe_str (fun _ _ => rfl)) (nomark _)) (pw_or1 (pt_cmpR (op_neD hr.units) (pe_mt mL hr pass0 (pv 0) (pa_cons pe_str pa_nil)) (pe_dget (hu_of hr) (pv 1) pe_str (fun _ _ => rfl)) (nomark _))))) (pss_one (ps_ret pe_bl)) pss_nil)
      (pss_cons (ps_set (i := 2) scIs.nd rfl (Or.inl rfl) (pe_mt0 mT hr pass0 (pv 0)))
      (pss_cons (ps_if (PW.pt (pw_or (pt_cmpR (op_neD hr.units) (pv 2) (pe_dget (hu_of hr) (pv 1) pe_str (fun _ _ => rfl)) (nomark _)) (pw_or1 (pt_cmpR op_ne (pe_mt0 mK hr pass0 (pv 0)) (pe_dget (hu_of hr) (pv 1) pe_str (fun _ _ => rfl)) (nomark _))))) (pss_one (ps_ret pe_bl)) pss_nil)
      (pss_one (ps_ret (pe_and (pe_cmpR (op_eqD hr.units) (pv 2) (pe_slice sl_list (pe_dget (hu_of hr) (pv 1) pe_str (fun _ _ => rfl)) po_none (po_some (pe_callB call_len_seq (by rfl) gL boot_len (pa_cons (pv 2) pa_nil)))) (nomark _))
        (pe_one (pe_chain op_le op_le pe_int (pe_mt0 mK hr pass0 (pv 0)) (pe_callB call_len_seq (by rfl) gL boot_len (pa_cons (pv 2) pa_nil))))))))), ?_⟩
    obtain ⟨dx, h1⟩ := TT.ob
    have q48 : ∀ t, ∀ b ∈ line st t, b.length ≤ 1000 := fun t b hb => by have := Bn.q t b hb; omega
    refine ⟨_, rfl, B.tk, dx, _, rfl, h1, tf_no (by decide +kernel), B, st, w, g, true, rfl, TT, fun p1 hp1 => ?_⟩
    have s1 := Same.new (Same.refl H) hp1 (o := .lst ((line st true).map vb))
    have M1 := TM.same s1
    refine ⟨_, rfl, M.dm, _, rfl, mg_A M1.d, _, _, dpl_S upd_same, dpl_S (M1.line true), sh_S (q48 true), sh_S (q48 true), _, rfl, ?_⟩
    rw [eqv_S (q48 true)]
    refine iteF ?_
    have T1 := TT.same s1
    refine ⟨_, rfl, B.tk, dx, _, rfl, s1 _ _ h1, tf_no (by decide +kernel), B, st, w, g, false, rfl, T1, fun p2 hp2 => ?_⟩
    have s2 := Same.new s1 hp2 (o := .lst ((line st false).map vb))
    have M2 := TM.same s2
    refine ⟨_, rfl, M.dm, _, rfl, mg_B M2.d, _, _, dpl_S upd_same, dpl_S (M2.line false), sh_S (q48 false), sh_S (q48 false), _, rfl, ?_⟩
    rw [eqv_S (q48 false)]
    refine iteF ?_
    have T2 := TT.same s2
    refine ⟨_, rfl, B.tk, dx, _, rfl, s2 _ _ h1, tf_no (by decide +kernel), B, st, w, g, rfl, T2, fun as p3 ht3 hp3 => ?_⟩
    have s3 := Same.new s2 hp3 (o := .lst (as.map V.ref))
    have M3 := TM.same s3
    have T3 := TT.same s3
    have L3 : Lts (upd (upd (upd H p1 (.lst ((line st true).map vb))) p2 (.lst ((line st false).map vb))) p3 (.lst (as.map V.ref))) p3 as st.taken := ⟨upd_same, ht3.mono fun b xs e => Same.new (Same.refl _) hp3 b _ e⟩
    generalize upd (upd (upd H p1 (.lst ((line st true).map vb))) p2 (.lst ((line st false).map vb))) p3 (.lst (as.map V.ref)) = H3 at s3 M3 T3 L3
    obtain ⟨asT, htk⟩ := M3.tk
    obtain ⟨asL, hls⟩ := M3.ls
    obtain ⟨dx3, h13⟩ := T3.ob
    refine ⟨_, rfl, _, rfl, M.dm, _, rfl, mg_t M3.d, _, _, dpl_T L3, dpl_T htk, sh_T _, sh_T _, _, rfl, ?_⟩
    rw [eqv_T]
    refine iteF ?_
    refine ⟨_, rfl, B.tk, dx3, _, rfl, h13, tf_no (by decide +kernel), B, st, w, g, rfl, T3, _, rfl, M.dm, _, rfl, mg_k M3.d, rfl, _, rfl, ?_⟩
    refine ifF (by rw [decide_eq_true rfl]; rfl) ?_
    refine ⟨_, rfl, _, rfl, M.dm, _, rfl, mg_l M3.d, _, rfl, p3, _, rfl, .inl (SqL.of L3.1), (st.taken.length : Int), ?_, M.lL, _, rfl, SqL.of hls.1, fun p4 hp4 => ?_⟩
    · exact congrArg V.int (by rw [List.length_map, L3.2.1])
    have s4 := Same.new (Same.refl H3) hp4 (o := .lst (cutV (asL.map V.ref) none (some (st.taken.length : Int))))
    have L4 : Lts (upd H3 p4 (.lst (cutV (asL.map V.ref) none (some (st.taken.length : Int))))) p4 (asL.take st.taken.length) (st.letters.take st.taken.length) := ⟨by rw [upd_same, cutV_to, List.map_take], (hls.2.take _).mono fun b _ e => s4 b _ e⟩
    rw [← hpre] at L4
    have L5 : Lts (upd H3 p4 (.lst (cutV (asL.map V.ref) none (some (st.taken.length : Int))))) p3 as st.taken := ⟨s4 _ _ L3.1, L3.2.mono fun b _ e => s4 b _ e⟩
    have T4 := T3.same s4
    have s5 := s3.trans s4
    generalize upd H3 p4 (.lst (cutV (asL.map V.ref) none (some (st.taken.length : Int)))) = H4 at L4 L5 T4 s5
    refine ⟨_, _, dpl_T L5, dpl_T L4, sh_T _, sh_T _, _, rfl, ?_⟩
    rw [eqv_T]
    refine iteT ?_
    obtain ⟨dx4, h14⟩ := T4.ob
    refine ⟨_, rfl, B.tk, dx4, _, rfl, h14, tf_no (by decide +kernel), B, st, w, g, rfl, T4, _, _, rfl, rfl, _, rfl, ifT (decide_eq_true (by omega)) ?_⟩
    refine ⟨_, rfl, p3, _, rfl, .inl (SqL.of L5.1), _, _, rfl, rfl, ?_⟩
    have e : decide ((st.known : Int) ≤ ((as.map V.ref).length : Int)) = true := decide_eq_true (by rw [List.length_map, L5.2.1]; omega)
    show Q (.bl (decide ((st.known : Int) ≤ ((as.map V.ref).length : Int)))) H4
    rw [e]
    exact k H4 s5
end
end Tk
end

section
set_option Elab.async false
set_option maxRecDepth 100000
set_option maxHeartbeats 4000000
set_option linter.unusedVariables false
/-! The law's loop: what stands, one turn's deed. -/
namespace Tk
open PySem PySem.Spec PyProof.Rows L2
/-- a damage hits nothing that was damaged before -/
def Clean (s : St) (sp : List Bits) : Deed → Prop
  | .damage t i _ _ => ∀ b, (line s t)[i]? = some b → b ∉ sp
  | _ => True
theorem good_step {w : Nat} {g : Bits} {s : St} {sp : List Bits} {d : Deed} (G : Good w g sp s) (W : Wf g d) (C : Clean s sp d) : Good w g (stepS w g s sp d).2.1 (stepS w g s sp d).1 := by
  cases d with
  | queue x => exact good_queue G W.1 W.2
  | send => exact good_send G
  | deliver t =>
    show Good w g (if line s t = [] then ((s, sp, Due.str "nothing there") : St × List Bits × Due) else ((if t = true then delT w g s else delB w g s), sp, .non)).2.1 (if line s t = [] then ((s, sp, Due.str "nothing there") : St × List Bits × Due) else ((if t = true then delT w g s else delB w g s), sp, .non)).1
    by_cases c : line s t = []
    · rw [if_pos c]; exact G
    · rw [if_neg c]
      cases t with
      | true => exact good_delT G
      | false => exact good_delB G
  | lose t i =>
    show Good w g (if i < (line s t).length then ((lose s t i, sp, Due.non) : St × List Bits × Due) else (s, sp, .str "nothing there")).2.1 (if i < (line s t).length then ((lose s t i, sp, Due.non) : St × List Bits × Due) else (s, sp, .str "nothing there")).1
    by_cases c : i < (line s t).length
    · rw [if_pos c]; exact good_lose G t i
    · rw [if_neg c]; exact G
  | rept t i =>
    show Good w g (if i < (line s t).length then ((rept s t i, sp, Due.non) : St × List Bits × Due) else (s, sp, .str "nothing there")).2.1 (if i < (line s t).length then ((rept s t i, sp, Due.non) : St × List Bits × Due) else (s, sp, .str "nothing there")).1
    by_cases c : i < (line s t).length
    · rw [if_pos c]; exact good_rept G t i
    · rw [if_neg c]; exact G
  | damage t i f p =>
    by_cases c : i < (line s t).length
    · have hb : (line s t)[i]? = some ((line s t).getD i []) := by simp [List.getD, c]
      by_cases c2 : p = [] ∨ ((line s t).getD i []).length < f + p.length
      · have e : stepS w g s sp (.damage t i f p) = (s, sp, .str "pattern does not fit") := (if_pos c).trans (if_pos c2)
        rw [e]; exact G
      · have e : stepS w g s sp (.damage t i f p) = (spoil s t i f p, sp ++ [damaged ((line s t).getD i []) f p], .non) := (if_pos c).trans (if_neg c2)
        rw [e]
        exact good_spoil G hb (C _ hb) W.1 (by
          have := not_or.mp c2
          omega)
    · have e : stepS w g s sp (.damage t i f p) = (s, sp, .str "nothing there") := if_neg c
      rw [e]; exact G
theorem setLine_letters (s : St) (t : Bool) (l : List Bits) : (setLine s t l).letters = s.letters := by cases t <;> rfl
theorem step_letters {w : Nat} {g : Bits} {s : St} {sp : List Bits} {d : Deed} : (stepS w g s sp d).1.letters.length ≤ s.letters.length + 1 := by
  cases d with
  | queue x =>
    show (s.letters ++ [x]).length ≤ _
    rw [List.length_append]
    exact Nat.le_refl _
  | send => exact Nat.le_succ _
  | deliver t =>
    show ((if line s t = [] then ((s, sp, Due.str "nothing there") : St × List Bits × Due) else ((if t = true then delT w g s else delB w g s), sp, .non)).1).letters.length ≤ _
    by_cases c : line s t = []
    · rw [if_pos c]; exact Nat.le_succ _
    · rw [if_neg c]
      cases t with
      | true =>
        show (delT w g s).letters.length ≤ _
        unfold delT
        cases s.there with
        | nil => exact Nat.le_succ _
        | cons p r =>
          dsimp only
          cases hearT w g s.taken p <;> exact Nat.le_succ _
      | false =>
        show (delB w g s).letters.length ≤ _
        unfold delB
        cases s.back with
        | nil => exact Nat.le_succ _
        | cons p r => exact Nat.le_succ _
  | lose t i =>
    show ((if i < (line s t).length then ((lose s t i, sp, Due.non) : St × List Bits × Due) else (s, sp, .str "nothing there")).1).letters.length ≤ _
    by_cases c : i < (line s t).length
    · rw [if_pos c]
      show (setLine s t _).letters.length ≤ _
      rw [setLine_letters]; exact Nat.le_succ _
    · rw [if_neg c]; exact Nat.le_succ _
  | rept t i =>
    show ((if i < (line s t).length then ((rept s t i, sp, Due.non) : St × List Bits × Due) else (s, sp, .str "nothing there")).1).letters.length ≤ _
    by_cases c : i < (line s t).length
    · rw [if_pos c]
      show (setLine s t _).letters.length ≤ _
      rw [setLine_letters]; exact Nat.le_succ _
    · rw [if_neg c]; exact Nat.le_succ _
  | damage t i f p =>
    by_cases c : i < (line s t).length
    · by_cases c2 : p = [] ∨ ((line s t).getD i []).length < f + p.length
      · have e : stepS w g s sp (.damage t i f p) = (s, sp, .str "pattern does not fit") := (if_pos c).trans (if_pos c2)
        rw [e]; exact Nat.le_succ _
      · have e : stepS w g s sp (.damage t i f p) = (spoil s t i f p, sp ++ [damaged ((line s t).getD i []) f p], .non) := (if_pos c).trans (if_neg c2)
        rw [e]
        show (setLine s t _).letters.length ≤ _
        rw [setLine_letters]; exact Nat.le_succ _
    · have e : stepS w g s sp (.damage t i f p) = (s, sp, .str "nothing there") := if_neg c
      rw [e]; exact Nat.le_succ _
theorem step_spoilt {w : Nat} {g : Bits} {s : St} {sp : List Bits} {d : Deed} : (stepS w g s sp d).2.1.length ≤ sp.length + 1 := by
  cases d with
  | queue x => exact Nat.le_succ _
  | send => exact Nat.le_succ _
  | deliver t =>
    show ((if line s t = [] then ((s, sp, Due.str "nothing there") : St × List Bits × Due) else ((if t = true then delT w g s else delB w g s), sp, .non)).2.1).length ≤ _
    split <;> exact Nat.le_succ _
  | lose t i =>
    show ((if i < (line s t).length then ((lose s t i, sp, Due.non) : St × List Bits × Due) else (s, sp, .str "nothing there")).2.1).length ≤ _
    split <;> exact Nat.le_succ _
  | rept t i =>
    show ((if i < (line s t).length then ((rept s t i, sp, Due.non) : St × List Bits × Due) else (s, sp, .str "nothing there")).2.1).length ≤ _
    split <;> exact Nat.le_succ _
  | damage t i f p =>
    by_cases c : i < (line s t).length
    · by_cases c2 : p = [] ∨ ((line s t).getD i []).length < f + p.length
      · have e : stepS w g s sp (.damage t i f p) = (s, sp, .str "pattern does not fit") := (if_pos c).trans (if_pos c2)
        rw [e]; exact Nat.le_succ _
      · have e : stepS w g s sp (.damage t i f p) = (spoil s t i f p, sp ++ [damaged ((line s t).getD i []) f p], .non) := (if_pos c).trans (if_neg c2)
        rw [e]
        show (sp ++ [_]).length ≤ _
        rw [List.length_append]; exact Nat.le_refl _
    · have e : stepS w g s sp (.damage t i f p) = (s, sp, .str "nothing there") := if_neg c
      rw [e]; exact Nat.le_succ _
theorem Good.bnd {w : Nat} {g : Bits} {s : St} {sp : List Bits} (G : Good w g sp s) (h : s.letters.length ≤ 60) (h2 : sp.length ≤ 1000) : Bnd w g s sp := by
  have h3 := G.kt
  have h4 := G.tn
  exact ⟨G.gen, G.w7, by omega, h, by omega, G.byt, G.l1, G.l2, fun t => by
    cases t with
    | true => exact G.lenT
    | false => exact G.lenB, h2⟩

/-! ### what stands between two turns; H: as the law began -/
structure LI (c : Cs) (w : Nat) (g : Bits) (H : Hp) (i : Nat) (H' : Hp) (A : TA) (M : MA) (s : St) (sp : List Bits) : Prop where
  same : Same H H'
  tk : TalkAt c w g H' A s
  md : MAt w g H' M s sp
  gd : Good w g sp s
  ll : s.letters.length ≤ i
  lS : sp.length ≤ i
  nf : ∀ b ∈ A.fp, H b = none
  nd : H M.dm = none
  df : M.dm ∉ A.fp
  al : ∀ b ∈ M.all, b ∉ A.fp
section
variable {c : Cs} {w : Nat} {g : Bits} {H H1 H2 H3 : Hp} {i j : Nat} {A A3 : TA} {M M2 : MA} {s s2 : St} {sp sp2 : List Bits}
theorem LI.mono (L : LI c w g H i H1 A M s sp) (h : i ≤ j) : LI c w g H j H1 A M s sp := ⟨L.same, L.tk, L.md, L.gd, Nat.le_trans L.ll h, Nat.le_trans L.lS h, L.nf, L.nd, L.df, L.al⟩
theorem LI.to (L : LI c w g H i H1 A M s sp) (h : Same H1 H2) : LI c w g H i H2 A M s sp := ⟨L.same.trans h, L.tk.same h, L.md.same h, L.gd, L.ll, L.lS, L.nf, L.nd, L.df, L.al⟩
theorem MAt.alloc (T : MAt w g H M s sp) : ∀ b ∈ M.all, ∃ o, H b = some o := fun b hb => by
  obtain ⟨as, h1, _⟩ := T.ls
  obtain ⟨as', h2, _⟩ := T.tk
  simp only [MA.all, List.mem_cons, List.not_mem_nil, or_false] at hb
  rcases hb with rfl | rfl | rfl | rfl | rfl
  · exact ⟨_, h1⟩
  · exact ⟨_, h2⟩
  · exact ⟨_, T.th⟩
  · exact ⟨_, T.bk⟩
  · exact ⟨_, T.sp⟩
theorem MAt.keep {S : List Addr} (T : MAt w g H M s sp) (k : Kp S H H1) (h1 : M.dm ∉ S) (h2 : ∀ b ∈ M.all, b ∉ S) : MAt w g H1 M s sp := by
  obtain ⟨as, a1, a2⟩ := T.ls
  obtain ⟨as', b1, b2⟩ := T.tk
  have m : ∀ b, b ∈ M.all → b ∉ S := h2
  exact ⟨k.keep _ _ T.d h1, ⟨as, k.keep _ _ a1 (m _ (by simp [MA.all])), a2.mono k.tups⟩, ⟨as', k.keep _ _ b1 (m _ (by simp [MA.all])), b2.mono k.tups⟩, k.keep _ _ T.th (m _ (by simp [MA.all])), k.keep _ _ T.bk (m _ (by simp [MA.all])), k.keep _ _ T.sp (m _ (by simp [MA.all]))⟩
/-- the model did a deed: the talk stands -/
theorem LI.model (L : LI c w g H i H1 A M s sp) (X : MStp w g H1 M H2 M2 s2 sp2) : TalkAt c w g H2 A s ∧ Same H H2 ∧ M2.dm ∉ A.fp ∧ (∀ b ∈ M2.all, b ∉ A.fp) ∧ H M2.dm = none := by
  obtain ⟨dx, h1⟩ := L.tk.ob
  obtain ⟨as, ⟨dk, h2⟩, _⟩ := L.tk.take
  have n1 := ins_ne_dk h1 L.md.d
  have n2 := ins_ne_dk h2 L.md.d
  refine ⟨L.tk.keep X.kp (fun b hb z => L.df (by rw [← List.mem_singleton.mp z]; exact hb)) (fun z => n1 (List.mem_singleton.mp z)) (fun z => n2 (List.mem_singleton.mp z)), fun b o e => ?_, by rw [X.dm]; exact L.df, fun b hb z => ?_, by rw [X.dm]; exact L.nd⟩
  · exact X.kp.keep b o (L.same b o e) (fun z => by rw [List.mem_singleton.mp z, L.nd] at e; cases e)
  · rcases X.new b hb with q | q
    · exact L.al b q z
    · obtain ⟨o, e⟩ := L.tk.alloc b z
      rw [q] at e; cases e
/-- .. and then the talk did it -/
theorem LI.talk {d : Deed} (L : LI c w g H i H1 A M s sp) (X : MStp w g H1 M H2 M2 (stepS w g s sp d).1 (stepS w g s sp d).2.1) (Y : Stp c w g H2 A H3 A3 (stepS w g s sp d).1) (W : Wf g d) (C : Clean s sp d) :
    LI c w g H (i + 1) H3 A3 M2 (stepS w g s sp d).1 (stepS w g s sp d).2.1 := by
  obtain ⟨T2, S2, df, al, nd⟩ := L.model X
  have ll := step_letters (w := w) (g := g) (s := s) (sp := sp) (d := d)
  have lS := step_spoilt (w := w) (g := g) (s := s) (sp := sp) (d := d)
  have l1 := L.ll
  have l2 := L.lS
  refine ⟨fun b o e => ?_, Y.ok, X.ok.keep Y.kp df al, good_step L.gd W C, by omega, by omega, fun b hb => ?_, nd, fun z => ?_, fun b hb z => ?_⟩
  · exact Y.kp.keep b o (S2 b o e) (fun z => by rw [L.nf b z] at e; cases e)
  · rcases Y.fp b hb with q | q
    · exact L.nf b q
    · cases e : H b with
      | none => rfl
      | some o => rw [S2 b o e] at q; cases q
  · rcases Y.fp _ z with q | q
    · exact df q
    · rw [X.ok.d] at q; cases q
  · rcases Y.fp _ z with q | q
    · exact al b hb q
    · obtain ⟨o, e⟩ := X.ok.alloc b hb
      rw [q] at e; cases e
end

/-! ### a turn's deed -/
def tBody (c : Cs) : TS :=
  tSeq (tAsg (tCall spDn [] E0 (tCons (tVar 2) (tCons (tVar 5) tNil))) (gName 7))
    (tIfS (tOr (tTest (tOp rNe (tCall (spTo c) [] E0 (tCons (tVar 3) (tCons (tVar 5) tNil))) (tVar 7))) (tNot (tB (tCall (spIs c) [] E0 (tCons (tVar 3) (tCons (tVar 2) tNil)))))) (tRet (tC (.bl false))) tNext)
theorem due_scal (x : Due) : scal x.v x.v = true := by cases x <;> rfl
theorem body_run {c : Cs} {w : Nat} {g : Bits} {H H1 : Hp} {i : Nat} {A : TA} {M : MA} {s : St} {sp : List Bits} {d : Deed} {e : Addr} {v0 v1 v4 v6 v7 : Option V} {D : Ends} (L : LI c w g H i H1 A M s sp) (hi : i < 51) (hD : DAt H1 e d) (W : Wf g d) (C : Clean s sp d)
    (hn : ∀ H' A' M' s' sp' v7', LI c w g H (i + 1) H' A' M' s' sp' → A'.tk = A.tk → M'.dm = M.dm → D.nx [v0, v1, some (.ref M.dm), some (.ref A.tk), v4, some (.ref e), v6, v7'] H') :
    tBody c D [v0, v1, some (.ref M.dm), some (.ref A.tk), v4, some (.ref e), v6, v7] H1 := by
  have l1 := L.ll
  have l2 := L.lS
  have B := L.gd.bnd (by omega) (by omega)
  refine ⟨_, rfl, _, rfl, M, s, sp, w, g, d, e, rfl, L.md, hD, B, W, fun H2 M2 X => ?_⟩
  obtain ⟨T2, S2, df, al, nd⟩ := L.model X
  refine ⟨_, rfl, _, rfl, A, s, sp, w, g, d, e, rfl, T2, hD.mono X.kp.tups, B, W, by omega, fun H3 A3 Y => ?_⟩
  have L3 := L.talk X Y W C
  refine ⟨_, rfl, due_scal _, _, rfl, ifF (by rw [decide_eq_true rfl]; rfl) ?_⟩
  have l3 := L3.ll
  have l4 := L3.lS
  have B3 := L3.gd.bnd (by omega) (by omega)
  refine ⟨_, rfl, _, rfl, A3, M2, _, _, w, g, ?_, L3.tk, L3.md, B3, L3.gd.kt, L3.gd.pre, fun H4 s4 => ?_⟩
  · show [V.ref A.tk, V.ref M.dm] = _
    rw [Y.tk, X.dm]
  · refine ⟨true, rfl, ifF rfl ?_⟩
    exact hn H4 A3 M2 _ _ _ (L3.to s4) Y.tk X.dm
end Tk
end

section
set_option Elab.async false
set_option maxRecDepth 100000
set_option maxHeartbeats 4000000
set_option linter.unusedVariables false
/-! The law. -/
namespace Tk
open PySem PySem.Spec PyProof.Rows L2
abbrev sLaw : Stmt := top_ 37
def spLaw (K : PySem.W.Frag) : Sp := fun vs H Q _ => ∃ (a : Addr) (ns : List Int), vs = [.ref a] ∧ SqL K H a (ns.map V.int) ∧ ns.length ≤ 63 ∧ ∀ H', Q (.bl true) H'
theorem putK_fresh {l : List (Key × V)} {k : Key} (v : V) (h : ¬ k ∈ l.map (·.1)) : putK l k v = l ++ [(k, v)] := by
  unfold putK
  rw [if_neg]
  intro z
  obtain ⟨p, hp, e⟩ := List.any_eq_true.mp z
  exact h (List.mem_map.mpr ⟨p, hp, of_decide_eq_true e⟩)
theorem mergeK_nd : ∀ {more acc : List (Key × V)}, ((acc ++ more).map (·.1)).Nodup → mergeK acc more = acc ++ more
  | [], acc, _ => by rw [List.append_nil]; rfl
  | p :: r, acc, h => by
    have h' := h
    rw [List.map_append, List.nodup_append] at h'
    have e : putK acc p.1 p.2 = acc ++ [p] := putK_fresh _ (fun z => h'.2.2 _ z _ (List.mem_cons_self ..) rfl)
    show mergeK (putK acc p.1 p.2) r = _
    rw [e, mergeK_nd (by rw [List.append_assoc]; exact h), List.append_assoc]
    rfl
theorem inr_no : ∀ {l : List Str} {x : Str}, ¬ x ∈ l → ¬ (Sum.inr x : Key) ∈ l.map Sum.inr := fun {l x} h z => by
  obtain ⟨y, hy, e⟩ := List.mem_map.mp z
  injection e with e
  rw [e] at hy
  exact h hy
theorem inV_bits {b : Bits} : ∀ {sp : List Bits}, inV (vb b) (sp.map vb) = decide (b ∈ sp)
  | [] => rfl
  | a :: sp => by
    have ih := inV_bits (b := b) (sp := sp)
    show ((bs a == bs b) || inV (vb b) (sp.map vb)) = _
    rw [ih]
    by_cases h : a = b
    · subst h
      simp
    · have h1 : (bs a == bs b) = false := beq_eq_false_iff_ne.mpr fun z => h (bs_inj z)
      have h2 : ¬ b = a := fun z => h z.symm
      rw [h1, Bool.false_or]
      by_cases h3 : b ∈ sp
      · simp [h3]
      · simp [h3, h2]
theorem flat_bits : ∀ sp : List Bits, (sp.map vb).all flatV = true
  | [] => rfl
  | a :: sp => by
    show (true && (sp.map vb).all flatV) = true
    rw [flat_bits sp]
    rfl
section
variable {P : Program} {w : World} {K : PySem.W.Frag} {mg : Str → Option Value} {base : Heap} {c : Cs}
theorem scLaw : FnScope ["_law_script", "_law_generator_here", "_law_model", "_law_talk", "_law_k", "_law_deed_here", "_law_line", "_law_due"] ["_law_script"] (defScope sLaw) := ⟨rfl, rfl, rfl, by decide +kernel, rfl, by decide +kernel, by decide +kernel⟩
theorem ok_law {f : Addr} {fd : FuncData} (F : Fun K "law" "law" sLaw f fd) (cC : Cal P w K mg base CX0 1 "_law_cell" (spCe K)) (cG : Cal P w K mg base CX0 2 "_law_generator" spGe) (cDe : Cal P w K mg base CX0 3 "_law_deed" spDe)
    (cDn : Cal P w K mg base CX0 7 "_law_done" spDn) (cTo : Cal P w K mg base CX0 8 "_law_told" (spTo c)) (cIs : Cal P w K mg base CX0 2 "_law_is_it" (spIs c)) (mkT : Mak P w K mg base CX0 3 "Talk" c.T (spTI c)) (mF : Met P w K mg base CX0 8 c.T "finish" (spTF c))
    (mT : Met P w K mg base CX0 1 c.T "taken" (spTT c)) (mK : Met P w K mg base CX0 1 c.T "known" (spTK c)) (gR : mg "range" = none) (gL : mg "len" = none) : FnOk P w K mg base CX0 9 f fd ["_law_script"] (spLaw K) := by
  refine F.ok scLaw (fun vs H Q E h => ?_) (fun cdv A outer s H vs Q E hr h => ?_)
  · obtain ⟨a, ns, rfl, _⟩ := h
    rfl
  · obtain ⟨a, ns, rfl, hS, hlen, k⟩ := h
    refine ⟨_, pss_cons (ps_set (i := 1) scLaw.nd rfl (Or.inl rfl) (pe_c cG hr pass0 (pa_cons (pe_op op_fdiv (pe_c cC hr pass0 (pa_cons (pv 0) (pa_cons pe_int pa_nil))) pe_int) pa_nil)))
      (pss_cons (ps_set (i := 2) scLaw.nd rfl (Or.inl rfl) (pe_disp (pps_cons pe_str (pe_op op_add pe_int (pe_op op_mod (pe_c cC hr pass0 (pa_cons (pv 0) (pa_cons pe_int pa_nil))) pe_int)) (pps_cons pe_str (pv 1) (pps_cons pe_str (pe_lst pa_nil) (pps_cons pe_str (pe_lst pa_nil) (pps_cons pe_str pe_int pps_nil))))) (by rfl) (by rfl) (fun z => by cases z) (by decide)))
      (pss_cons (ps_dput (hu_of hr) (pv 2) pe_str (pe_lst pa_nil) rfl)
      (pss_cons (ps_dput (hu_of hr) (pv 2) pe_str (pe_lst pa_nil) rfl)
      (pss_cons (ps_dput (hu_of hr) (pv 2) pe_str (pe_lst pa_nil) rfl)
      (pss_cons (ps_set (i := 3) scLaw.nd rfl (Or.inl rfl) (pe_mk mkT hr pass0 (pa_cons (pe_dget (hu_of hr) (pv 2) pe_str (fun _ _ => rfl)) (pa_cons (pv 1) pa_nil))))
      (pss_cons (ps_for PassesOwn.never rfl (pi_range1 (by rfl) gR (pa_cons (pe_op op_mod (pe_c cC hr pass0 (pa_cons (pv 0) (pa_cons pe_int pa_nil))) pe_int) pa_nil)) (pg_name (i := 4) scLaw.nd rfl (Or.inl rfl))
        (pss_cons (ps_set (i := 5) scLaw.nd rfl (Or.inl rfl) (pe_c cDe hr pass0 (pa_cons (pe_c cC hr pass0 (pa_cons (pv 0) (pa_cons (pe_op op_add pe_int (pv 4)) pa_nil))) (pa_cons (pv 2) pa_nil))))
        (pss_cons (ps_set (i := 6) scLaw.nd rfl (Or.inl rfl) (pe_ifExp (pt_cmpR op_eq (pe_ix ix_tup (pv 5) pe_int (fun _ _ => rfl)) pe_str (nomark _)) (pe_dget (hu_of hr) (pv 2) (pe_ix ix_tup (pv 5) pe_int (fun _ _ => rfl)) (fun _ _ => rfl)) (pe_lst pa_nil)))
        (pss_one (ps_if (PW.pt (pw_or (pt_cmpR op_eq (pe_callB call_len_seq (by rfl) gL boot_len (pa_cons (pv 6) pa_nil)) pe_int (nomark _)) (pw_or (pt_cmpR op_ge (pe_ix ix_tup (pv 5) pe_int (fun _ _ => rfl)) (pe_callB call_len_seq (by rfl) gL boot_len (pa_cons (pv 6) pa_nil)) (nomark _))
            (pw_or1 (pt_cmpR op_notIn_seq (pe_ix ix_list (pv 6) (pe_ix ix_tup (pv 5) pe_int (fun _ _ => rfl)) (fun _ _ => rfl)) (pe_dget (hu_of hr) (pv 2) pe_str (fun _ _ => rfl)) (by rfl))))))
          (pss_cons (ps_set (i := 7) scLaw.nd rfl (Or.inl rfl) (pe_c cDn hr pass0 (pa_cons (pv 2) (pa_cons (pv 5) pa_nil))))
          (pss_one (ps_if (PW.pt (pw_or (pt_cmpR op_ne (pe_c cTo hr pass0 (pa_cons (pv 3) (pa_cons (pv 5) pa_nil))) (pv 7) (nomark _)) (pw_or1 (pt_not (pt_val (pe_c cIs hr pass0 (pa_cons (pv 3) (pa_cons (pv 2) pa_nil)))))))) (pss_one (ps_ret pe_bl)) pss_nil))) pss_nil)))))
      (pss_cons (ps_expr (pe_mt0 mF hr pass0 (pv 3)))
      (pss_one (ps_ret (pe_and (pe_cmpR (op_eqD hr.units) (pe_mt0 mT hr pass0 (pv 3)) (pe_dget (hu_of hr) (pv 2) pe_str (fun _ _ => rfl)) (nomark _)) (pe_one (pe_cmpR op_eq (pe_mt0 mK hr pass0 (pv 3)) (pe_callB call_len_seq (by rfl) gL boot_len (pa_cons (pe_dget (hu_of hr) (pv 2) pe_str (fun _ _ => rfl)) pa_nil)) (nomark _))))))))))))), ?_⟩
    -- the generator
    refine ⟨_, rfl, a, ns, 0, rfl, hS, by decide, fun z => ⟨_, _, rfl, rfl, ⟨by decide, by decide⟩, _, rfl, fun g H1 hg s1 => ?_⟩⟩
    -- the model
    refine fun dm hdm => ?_
    have s2 := Same.new s1 hdm (o := .dK [])
    refine ⟨_, rfl, a, ns, 0, rfl, s2.seq hS, by decide, fun z2 => ?_⟩
    obtain ⟨m, em, ml⟩ := mod_nat z2 7 (by decide)
    refine ⟨_, _, rfl, rfl, (by show (0 : Int) < 7; decide), _, _, rfl, rfl, _, rfl, Nat.zero_le _, fun lL hlL => ⟨Nat.zero_le _, fun lT hlT => ?_⟩⟩
    have s3 := Same.new s2 hlL (o := .lst [])
    have s4 := Same.new s3 hlT (o := .lst [])
    have nLd : lL ≠ dm := fun z => by rw [z, upd_same] at hlL; cases hlL
    have nTL : lT ≠ lL := fun z => by rw [z, upd_same] at hlT; cases hlT
    have nTd : lT ≠ dm := fun z => by rw [z, upd_ne nLd.symm, upd_same] at hlT; cases hlT
    have ew : V.int (1 + z2 % 7) = vn (1 + m) := congrArg V.int (by
      have : z2 % 7 = (m : Int) := em
      omega)
    refine ⟨by rw [upd_ne nTd.symm, upd_ne nLd.symm]; exact upd_same, [(.inr "window", V.int (1 + z2 % 7)), (.inr "generator", vb g), (.inr "letters", .ref lL), (.inr "taken", .ref lT), (.inr "known", .int 0)], rfl, (by show 5 ≤ 15; decide), ?_⟩
    rw [mergeK_nd (acc := []) (by
      have h : (mks.take 5).Nodup := by decide +kernel
      exact inr_nd h), List.nil_append, ew]
    have s5 : Same H1 (upd (upd (upd (upd H1 dm (.dK [])) lL (.lst [])) lT (.lst [])) dm (.dK [(.inr "window", vn (1 + m)), (.inr "generator", vb g), (.inr "letters", .ref lL), (.inr "taken", .ref lT), (.inr "known", .int 0)])) := fun b o e => by
      rw [upd_ne (ne_of_none e hdm)]
      exact Same.new (Same.new (Same.new (Same.refl H1) hdm) hlL) hlT b o e
    have d5 : (upd (upd (upd (upd H1 dm (.dK [])) lL (.lst [])) lT (.lst [])) dm (.dK [(.inr "window", vn (1 + m)), (.inr "generator", vb g), (.inr "letters", .ref lL), (.inr "taken", .ref lT), (.inr "known", .int 0)])) dm = some (.dK [(.inr "window", vn (1 + m)), (.inr "generator", vb g), (.inr "letters", .ref lL), (.inr "taken", .ref lT), (.inr "known", .int 0)]) := upd_same
    have L5 : (upd (upd (upd (upd H1 dm (.dK [])) lL (.lst [])) lT (.lst [])) dm (.dK [(.inr "window", vn (1 + m)), (.inr "generator", vb g), (.inr "letters", .ref lL), (.inr "taken", .ref lT), (.inr "known", .int 0)])) lL = some (.lst []) := by
      rw [upd_ne nLd, upd_ne nTL.symm, upd_same]
    have T5 : (upd (upd (upd (upd H1 dm (.dK [])) lL (.lst [])) lT (.lst [])) dm (.dK [(.inr "window", vn (1 + m)), (.inr "generator", vb g), (.inr "letters", .ref lL), (.inr "taken", .ref lT), (.inr "known", .int 0)])) lT = some (.lst []) := by
      rw [upd_ne nTd, upd_same]
    generalize upd (upd (upd (upd H1 dm (.dK [])) lL (.lst [])) lT (.lst [])) dm (.dK [(.inr "window", vn (1 + m)), (.inr "generator", vb g), (.inr "letters", .ref lL), (.inr "taken", .ref lT), (.inr "known", .int 0)]) = H5 at s5 d5 L5 T5
    have hdH : H dm = none := by
      cases e : H dm with
      | none => rfl
      | some o => rw [s1 _ _ e] at hdm; cases hdm
    have s05 := s1.trans s5
    -- what a store into the model keeps
    have st : ∀ {Ha : Hp} {l : Addr} {o : HO}, Same H Ha → Ha l = none → Same H (upd (upd Ha l (.lst [])) dm o) := fun {Ha l o} x hl b u e => by
      rw [upd_ne (fun z => by rw [z, hdH] at e; cases e)]
      exact Same.new x hl b u e
    have kp : ∀ {Ha : Hp} {l q : Addr} {kv : List (Key × V)} {o : HO} {xs : List V}, Ha dm = some (.dK kv) → Ha l = none → Ha q = some (.lst xs) → (upd (upd Ha l (.lst [])) dm o) q = some (.lst xs) := fun {Ha l q kv o xs} hd hl hq => by
      rw [upd_ne (lst_ne_dk hq hd), upd_ne (ne_of_none hq hl)]
      exact hq
    have nw : ∀ {Ha : Hp} {l : Addr} {kv : List (Key × V)} {o : HO}, Ha dm = some (.dK kv) → Ha l = none → (upd (upd Ha l (.lst [])) dm o) l = some (.lst []) := fun {Ha l kv o} hd hl => by
      rw [upd_ne (ne_of_none hd hl).symm]
      exact upd_same
    refine ⟨Nat.zero_le _, fun lA hlA => ⟨_, rfl, dm, _, rfl, DPut.k (k := Sum.inr ("there" : Str)) (by rw [upd_ne (ne_of_none d5 hlA)]; exact d5) (line_lt (by show 5 ≤ 100000; decide)), ?_⟩⟩
    rw [putK_fresh _ (by
      exact inr_no (l := mks.take 5) (by decide +kernel))]
    have s6 := st (o := .dK ([(.inr "window", vn (1 + m)), (.inr "generator", vb g), (.inr "letters", .ref lL), (.inr "taken", .ref lT), (.inr "known", .int 0)] ++ [(.inr "there", .ref lA)])) s05 hlA
    have L6 := kp (o := .dK ([(.inr "window", vn (1 + m)), (.inr "generator", vb g), (.inr "letters", .ref lL), (.inr "taken", .ref lT), (.inr "known", .int 0)] ++ [(.inr "there", .ref lA)])) d5 hlA L5
    have T6 := kp (o := .dK ([(.inr "window", vn (1 + m)), (.inr "generator", vb g), (.inr "letters", .ref lL), (.inr "taken", .ref lT), (.inr "known", .int 0)] ++ [(.inr "there", .ref lA)])) d5 hlA T5
    have A6 := nw (o := .dK ([(.inr "window", vn (1 + m)), (.inr "generator", vb g), (.inr "letters", .ref lL), (.inr "taken", .ref lT), (.inr "known", .int 0)] ++ [(.inr "there", .ref lA)])) d5 hlA
    have d6 : (upd (upd H5 lA (.lst [])) dm (.dK ([(.inr "window", vn (1 + m)), (.inr "generator", vb g), (.inr "letters", .ref lL), (.inr "taken", .ref lT), (.inr "known", .int 0)] ++ [(.inr "there", .ref lA)]))) dm = some (.dK [(.inr "window", vn (1 + m)), (.inr "generator", vb g), (.inr "letters", .ref lL), (.inr "taken", .ref lT), (.inr "known", .int 0), (.inr "there", .ref lA)]) := upd_same
    generalize upd (upd H5 lA (.lst [])) dm (.dK ([(.inr "window", vn (1 + m)), (.inr "generator", vb g), (.inr "letters", .ref lL), (.inr "taken", .ref lT), (.inr "known", .int 0)] ++ [(.inr "there", .ref lA)])) = H6 at s6 d6 L6 T6 A6
    refine ⟨Nat.zero_le _, fun lB hlB => ⟨_, rfl, dm, _, rfl, DPut.k (k := Sum.inr ("back" : Str)) (by rw [upd_ne (ne_of_none d6 hlB)]; exact d6) (line_lt (by show 6 ≤ 100000; decide)), ?_⟩⟩
    rw [putK_fresh _ (by
      exact inr_no (l := mks.take 6) (by decide +kernel))]
    have s7 := st (o := .dK ([(.inr "window", vn (1 + m)), (.inr "generator", vb g), (.inr "letters", .ref lL), (.inr "taken", .ref lT), (.inr "known", .int 0), (.inr "there", .ref lA)] ++ [(.inr "back", .ref lB)])) s6 hlB
    have L7 := kp (o := .dK ([(.inr "window", vn (1 + m)), (.inr "generator", vb g), (.inr "letters", .ref lL), (.inr "taken", .ref lT), (.inr "known", .int 0), (.inr "there", .ref lA)] ++ [(.inr "back", .ref lB)])) d6 hlB L6
    have T7 := kp (o := .dK ([(.inr "window", vn (1 + m)), (.inr "generator", vb g), (.inr "letters", .ref lL), (.inr "taken", .ref lT), (.inr "known", .int 0), (.inr "there", .ref lA)] ++ [(.inr "back", .ref lB)])) d6 hlB T6
    have A7 := kp (o := .dK ([(.inr "window", vn (1 + m)), (.inr "generator", vb g), (.inr "letters", .ref lL), (.inr "taken", .ref lT), (.inr "known", .int 0), (.inr "there", .ref lA)] ++ [(.inr "back", .ref lB)])) d6 hlB A6
    have B7 := nw (o := .dK ([(.inr "window", vn (1 + m)), (.inr "generator", vb g), (.inr "letters", .ref lL), (.inr "taken", .ref lT), (.inr "known", .int 0), (.inr "there", .ref lA)] ++ [(.inr "back", .ref lB)])) d6 hlB
    have d7 : (upd (upd H6 lB (.lst [])) dm (.dK ([(.inr "window", vn (1 + m)), (.inr "generator", vb g), (.inr "letters", .ref lL), (.inr "taken", .ref lT), (.inr "known", .int 0), (.inr "there", .ref lA)] ++ [(.inr "back", .ref lB)]))) dm = some (.dK [(.inr "window", vn (1 + m)), (.inr "generator", vb g), (.inr "letters", .ref lL), (.inr "taken", .ref lT), (.inr "known", .int 0), (.inr "there", .ref lA), (.inr "back", .ref lB)]) := upd_same
    generalize upd (upd H6 lB (.lst [])) dm (.dK ([(.inr "window", vn (1 + m)), (.inr "generator", vb g), (.inr "letters", .ref lL), (.inr "taken", .ref lT), (.inr "known", .int 0), (.inr "there", .ref lA)] ++ [(.inr "back", .ref lB)])) = H7 at s7 d7 L7 T7 A7 B7
    refine ⟨Nat.zero_le _, fun lS hlS => ⟨_, rfl, dm, _, rfl, DPut.k (k := Sum.inr ("spoilt" : Str)) (by rw [upd_ne (ne_of_none d7 hlS)]; exact d7) (line_lt (by show 7 ≤ 100000; decide)), ?_⟩⟩
    rw [putK_fresh _ (by
      exact inr_no (l := mks.take 7) (by decide +kernel))]
    have s8 := st (o := .dK ([(.inr "window", vn (1 + m)), (.inr "generator", vb g), (.inr "letters", .ref lL), (.inr "taken", .ref lT), (.inr "known", .int 0), (.inr "there", .ref lA), (.inr "back", .ref lB)] ++ [(.inr "spoilt", .ref lS)])) s7 hlS
    have L8 := kp (o := .dK ([(.inr "window", vn (1 + m)), (.inr "generator", vb g), (.inr "letters", .ref lL), (.inr "taken", .ref lT), (.inr "known", .int 0), (.inr "there", .ref lA), (.inr "back", .ref lB)] ++ [(.inr "spoilt", .ref lS)])) d7 hlS L7
    have T8 := kp (o := .dK ([(.inr "window", vn (1 + m)), (.inr "generator", vb g), (.inr "letters", .ref lL), (.inr "taken", .ref lT), (.inr "known", .int 0), (.inr "there", .ref lA), (.inr "back", .ref lB)] ++ [(.inr "spoilt", .ref lS)])) d7 hlS T7
    have A8 := kp (o := .dK ([(.inr "window", vn (1 + m)), (.inr "generator", vb g), (.inr "letters", .ref lL), (.inr "taken", .ref lT), (.inr "known", .int 0), (.inr "there", .ref lA), (.inr "back", .ref lB)] ++ [(.inr "spoilt", .ref lS)])) d7 hlS A7
    have B8 := kp (o := .dK ([(.inr "window", vn (1 + m)), (.inr "generator", vb g), (.inr "letters", .ref lL), (.inr "taken", .ref lT), (.inr "known", .int 0), (.inr "there", .ref lA), (.inr "back", .ref lB)] ++ [(.inr "spoilt", .ref lS)])) d7 hlS B7
    have S8 := nw (o := .dK ([(.inr "window", vn (1 + m)), (.inr "generator", vb g), (.inr "letters", .ref lL), (.inr "taken", .ref lT), (.inr "known", .int 0), (.inr "there", .ref lA), (.inr "back", .ref lB)] ++ [(.inr "spoilt", .ref lS)])) d7 hlS
    have d8 : (upd (upd H7 lS (.lst [])) dm (.dK ([(.inr "window", vn (1 + m)), (.inr "generator", vb g), (.inr "letters", .ref lL), (.inr "taken", .ref lT), (.inr "known", .int 0), (.inr "there", .ref lA), (.inr "back", .ref lB)] ++ [(.inr "spoilt", .ref lS)]))) dm = some (.dK (mdl (1 + m) g ⟨dm, lL, lT, lA, lB, lS⟩ 0)) := upd_same
    generalize upd (upd H7 lS (.lst [])) dm (.dK ([(.inr "window", vn (1 + m)), (.inr "generator", vb g), (.inr "letters", .ref lL), (.inr "taken", .ref lT), (.inr "known", .int 0), (.inr "there", .ref lA), (.inr "back", .ref lB)] ++ [(.inr "spoilt", .ref lS)])) = H8 at s8 d8 L8 T8 A8 B8 S8
    have M8 : MAt (1 + m) g H8 ⟨dm, lL, lT, lA, lB, lS⟩ ⟨[], [], 0, [], []⟩ [] := ⟨d8, ⟨[], L8, Tups.nil _⟩, ⟨[], T8, Tups.nil _⟩, A8, B8, S8⟩
    -- the talk
    refine ⟨_, rfl, dm, _, rfl, mg_w (M := ⟨dm, lL, lT, lA, lB, lS⟩) d8, _, rfl, fun x dx hx hdx hne => ⟨x, dx, 1 + m, g, rfl, upd_same, fun A H9 etk T9 hfp htn keep => ⟨rfl, ?_⟩⟩⟩
    have s89 := made_same hx hdx keep
    have fr : ∀ b ∈ A.fp, H8 b = none := fun b hb => made_back (hfp b hb)
    have L0 : LI c (1 + m) g H 0 H9 A ⟨dm, lL, lT, lA, lB, lS⟩ ⟨[], [], 0, [], []⟩ [] := by
      refine ⟨s8.trans s89, T9, M8.same s89, good_start hg (by omega) (by omega), Nat.le_refl _, Nat.le_refl _, fun b hb => ?_, hdH, fun z => ?_, fun b hb z => ?_⟩
      · cases e : H b with
        | none => rfl
        | some o => have := s8 _ _ e; rw [fr b hb] at this; cases this
      · have := fr _ z
        rw [show (⟨dm, lL, lT, lA, lB, lS⟩ : MA).dm = dm from rfl, d8] at this
        cases this
      · obtain ⟨o, e⟩ := M8.alloc b hb
        rw [fr b z] at e; cases e
    rw [← etk]
    -- the turns
    refine ⟨_, rfl, a, ns, 1, rfl, (s8.trans s89).seq hS, by decide, fun z3 => ?_⟩
    obtain ⟨n, en, nl⟩ := mod_nat z3 51 (by decide)
    refine ⟨_, _, rfl, rfl, (by show (0 : Int) < 51; decide), (n : Int), congrArg (fun z => [V.int z]) en, by omega, by omega, ?_⟩
    rw [Int.toNat_natCast]
    refine for_range (lo := 0) (n := n) (fun i σ H' => ∃ A' M s sp v4 v5 v6 v7, LI c (1 + m) g H i H' A' M s sp ∧ A'.tk = A.tk ∧ M.dm = dm ∧ σ = [some (.ref a), some (vb g), some (.ref dm), some (.ref A.tk), v4, v5, v6, v7])
      ⟨A, ⟨dm, lL, lT, lA, lB, lS⟩, _, _, none, none, none, none, L0, rfl, rfl, rfl⟩ ?_ ?_
    · rintro i σ H' hi ⟨B, M, s, sp, v4, v5, v6, v7, L, e1, e2, rfl⟩
      rw [← e1, ← e2]
      have SS := L.same
      refine ⟨_, rfl, _, rfl, _, _, rfl, rfl, a, ns, _, rfl, SS.seq hS, by omega, fun z4 => ?_⟩
      have q1 := L.gd.l1
      have q2 := L.gd.l2
      refine ⟨_, rfl, z4, M, s, sp, 1 + m, g, rfl, L.md, hg, by omega, by omega, fun d e H2 s2 hD hW => ?_⟩
      have L2 := L.to s2
      cases id hD with
      | @queue x b ha hb =>
        refine ⟨_, rfl, e, _, _, _, rfl, rfl, SqT.of ha, atI_nat (j := 0) rfl, rfl, _, rfl, ifF (by decide +kernel) ?_⟩
        refine ⟨Nat.zero_le _, fun q hq => ?_⟩
        have s3 := Same.new (Same.refl H2) hq (o := .lst [])
        refine ⟨_, rfl, q, _, rfl, .inl (SqL.of upd_same), rfl, _, rfl, ifT (by decide) (iteT ?_)⟩
        exact body_run (L2.to s3) (by omega) (hD.mono fun b xs e => s3 b _ e) hW trivial (fun H' A' M' s' sp' v7' L' f1 f2 => ⟨A', M', s', sp', _, _, _, _, L', f1, f2, rfl⟩)
      | send ha =>
        refine ⟨_, rfl, e, _, _, _, rfl, rfl, SqT.of ha, atI_nat (j := 0) rfl, rfl, _, rfl, ifF (by decide +kernel) ?_⟩
        refine ⟨Nat.zero_le _, fun q hq => ?_⟩
        have s3 := Same.new (Same.refl H2) hq (o := .lst [])
        refine ⟨_, rfl, q, _, rfl, .inl (SqL.of upd_same), rfl, _, rfl, ifT (by decide) (iteT ?_)⟩
        exact body_run (L2.to s3) (by omega) (hD.mono fun b xs e => s3 b _ e) hW trivial (fun H' A' M' s' sp' v7' L' f1 f2 => ⟨A', M', s', sp', _, _, _, _, L', f1, f2, rfl⟩)
      | @deliver t ha =>
        refine ⟨_, rfl, e, _, _, _, rfl, rfl, SqT.of ha, atI_nat (j := 0) rfl, rfl, _, rfl, ifF (by decide +kernel) ?_⟩
        refine ⟨Nat.zero_le _, fun q hq => ?_⟩
        have s3 := Same.new (Same.refl H2) hq (o := .lst [])
        refine ⟨_, rfl, q, _, rfl, .inl (SqL.of upd_same), rfl, _, rfl, ifT (by decide) (iteT ?_)⟩
        exact body_run (L2.to s3) (by omega) (hD.mono fun b xs e => s3 b _ e) hW trivial (fun H' A' M' s' sp' v7' L' f1 f2 => ⟨A', M', s', sp', _, _, _, _, L', f1, f2, rfl⟩)
      | @lose t j ha =>
        refine ⟨_, rfl, e, _, _, _, rfl, rfl, SqT.of ha, atI_nat (j := 0) rfl, rfl, _, rfl, ifF (by decide +kernel) ?_⟩
        refine ⟨Nat.zero_le _, fun q hq => ?_⟩
        have s3 := Same.new (Same.refl H2) hq (o := .lst [])
        refine ⟨_, rfl, q, _, rfl, .inl (SqL.of upd_same), rfl, _, rfl, ifT (by decide) (iteT ?_)⟩
        exact body_run (L2.to s3) (by omega) (hD.mono fun b xs e => s3 b _ e) hW trivial (fun H' A' M' s' sp' v7' L' f1 f2 => ⟨A', M', s', sp', _, _, _, _, L', f1, f2, rfl⟩)
      | @rept t j ha =>
        refine ⟨_, rfl, e, _, _, _, rfl, rfl, SqT.of ha, atI_nat (j := 0) rfl, rfl, _, rfl, ifF (by decide +kernel) ?_⟩
        refine ⟨Nat.zero_le _, fun q hq => ?_⟩
        have s3 := Same.new (Same.refl H2) hq (o := .lst [])
        refine ⟨_, rfl, q, _, rfl, .inl (SqL.of upd_same), rfl, _, rfl, ifT (by decide) (iteT ?_)⟩
        exact body_run (L2.to s3) (by omega) (hD.mono fun b xs e => s3 b _ e) hW trivial (fun H' A' M' s' sp' v7' L' f1 f2 => ⟨A', M', s', sp', _, _, _, _, L', f1, f2, rfl⟩)
      | @damage t j f p ha =>
        have hl := L2.md.line t
        refine ⟨_, rfl, e, _, _, _, rfl, rfl, SqT.of ha, atI_nat (j := 0) rfl, rfl, _, rfl, ifT (by decide +kernel) ?_⟩
        refine ⟨_, rfl, _, rfl, e, _, _, _, rfl, rfl, SqT.of ha, atI_nat (j := 1) rfl, M.dm, _, rfl, mg_line L2.md.d t, ?_⟩
        refine ⟨_, rfl, _, _, rfl, .inl (SqL.of hl), rfl, _, rfl, ?_⟩
        by_cases c0 : line s t = []
        · refine ifT (decide_eq_true (by rw [c0]; rfl)) (iteT ?_)
          exact body_run L2 (by omega) hD hW (fun b hb => by rw [c0] at hb; simp at hb) (fun H' A' M' s' sp' v7' L' f1 f2 => ⟨A', M', s', sp', _, _, _, _, L', f1, f2, rfl⟩)
        · have hpos : 0 < (line s t).length := List.length_pos_iff.mpr c0
          refine ifF (decide_eq_false fun z => ?_) ?_
          · injection z with z
            rw [List.length_map] at z
            omega
          refine ⟨_, rfl, e, _, _, _, rfl, rfl, SqT.of ha, atI_nat (j := 2) rfl, _, rfl, _, _, rfl, .inl (SqL.of hl), _, _, rfl, rfl, _, rfl, ?_⟩
          rw [List.length_map]
          by_cases c1 : j < (line s t).length
          · refine ifF (decide_eq_false (by omega)) ?_
            obtain ⟨b, hb⟩ : ∃ b, (line s t)[j]? = some b := ⟨(line s t)[j], List.getElem?_eq_getElem c1⟩
            refine ⟨_, rfl, _, rfl, e, _, _, _, rfl, rfl, SqT.of ha, atI_nat (j := 2) rfl, _, _, _, vb b, rfl, rfl, SqL.of hl, map_at hb, _, rfl, M.dm, _, rfl, mg_s L2.md.d, _, _, rfl, .inl (SqL.of L2.md.sp), rfl, flat_bits sp, _, rfl, ?_⟩
            show if (!inV (vb b) (sp.map vb)) = true then _ else _
            rw [inV_bits]
            by_cases c2 : b ∈ sp
            · rw [decide_eq_true c2]
              refine iteF ?_
              exact ⟨B, M, s, sp, _, _, _, _, L2.mono (Nat.le_succ _), rfl, rfl, rfl⟩
            · rw [decide_eq_false c2]
              refine iteT ?_
              exact body_run L2 (by omega) hD hW (fun b' hb' => by rw [hb] at hb'; rw [← Option.some.inj hb']; exact c2) (fun H' A' M' s' sp' v7' L' f1 f2 => ⟨A', M', s', sp', _, _, _, _, L', f1, f2, rfl⟩)
          · refine ifT (decide_eq_true (by omega)) (iteT ?_)
            exact body_run L2 (by omega) hD hW (fun b hb => by rw [List.getElem?_eq_none (by omega)] at hb; cases hb) (fun H' A' M' s' sp' v7' L' f1 f2 => ⟨A', M', s', sp', _, _, _, _, L', f1, f2, rfl⟩)
    · rintro σ H' ⟨B, M, s, sp, v4, v5, v6, v7, L, e1, e2, rfl⟩
      rw [← e1, ← e2]
      have ll := L.ll
      obtain ⟨dx1, h1⟩ := L.tk.ob
      refine ⟨_, rfl, B.tk, dx1, _, rfl, h1, tf_no (by decide +kernel), B, s, 1 + m, g, sp, rfl, L.tk, L.gd, by omega, fun r H2 s' Y hT hK => ?_⟩
      have M2 := L.md.keep Y.kp L.df L.al
      obtain ⟨dx2, h2⟩ := Y.ok.ob
      refine ⟨_, rfl, B.tk, dx2, _, rfl, h2, tf_no (by decide +kernel), B, s', 1 + m, g, rfl, Y.ok, fun as p ht hp => ?_⟩
      have s3 := Same.new (Same.refl H2) hp (o := .lst (as.map V.ref))
      have M3 := M2.same s3
      have T3 := Y.ok.same s3
      obtain ⟨asL, hls⟩ := M3.ls
      obtain ⟨dx3, h3⟩ := T3.ob
      have L3 : Lts (upd H2 p (.lst (as.map V.ref))) p as s'.taken := ⟨upd_same, ht.mono fun b _ e => s3 b _ e⟩
      rw [hT] at L3
      refine ⟨_, rfl, M.dm, _, rfl, mg_l M3.d, _, _, dpl_T L3, dpl_T hls, sh_T _, sh_T _, _, rfl, ?_⟩
      rw [eqv_T]
      refine iteT ?_
      refine ⟨_, rfl, B.tk, dx3, _, rfl, h3, tf_no (by decide +kernel), B, s', 1 + m, g, rfl, T3, _, rfl, M.dm, _, rfl, mg_l M3.d, M.lL, _, rfl, .inl (SqL.of hls.1), rfl, ?_⟩
      have ed : decide (vn s'.known = V.int ((asL.map V.ref).length : Int)) = true := decide_eq_true (by rw [List.length_map, hls.2.1, hK]; rfl)
      show Q (.bl (decide (vn s'.known = V.int ((asL.map V.ref).length : Int)))) _
      rw [ed]
      exact k _
end
end Tk
end

section
set_option Elab.async false
set_option maxRecDepth 100000
set_option maxHeartbeats 4000000
set_option linter.unusedVariables false
/-! What the top has written, joined. -/
namespace PySem
namespace RefX
open PySem.W PySem.Calls PyProof.Rows PySem.HandSPX Tk
/-- an error of the class at S is what «except S» names -/
theorem exm_self {K : Frag} {S : Addr} (h1 : subIn K (.ref S) (.type "BaseException") = some true) (h2 : isClsIn K S = true) (h3 : typeIn K (.ref S) = some (.type "type")) (h4 : subIn K (.ref S) (.ref S) = some true) :
    exmOne K (.ref S) (.ref S) = some true := by
  have e1 : (subIn K (.ref S) (.type "BaseException") == some true) = true := by rw [h1] <;> rfl
  have e2 : ((clsIn K S).isSome && typeIn K (.ref S) == some (.type "type")) = true := by
    have h2' : (clsIn K S).isSome = true := h2
    rw [h2', h3] <;> rfl
  show (if (subIn K (.ref S) (.type "BaseException") == some true) = true then (if ((clsIn K S).isSome && typeIn K (.ref S) == some (.type "type")) = true then subIn K (.ref S) (.ref S) else none) else none) = some true
  rw [if_pos e1, if_pos e2]
  exact h4
theorem ref_mk {prog : Program} {K : Frag} {h : Heap} {mg : Str → Option Value} {C fI cda cc : Addr} (X : K.In h) (G : h.Ns mainGlobals mg)
    {nm q : Str} {N : Addr} {bs bm : List Value} {sn : List Str} {sub : List Value} {ab : Bool} {col : Option Bool} {dd : Option Addr} {m0 m1 m2 m3 m5 : Option Value}
    {oc kV doc pm ct ccl cl : Value} {od an cdd cld : Option Addr} {osl ccs csl : Array (Option Value)} {vs : Array Value} {tf : Tok}
    (aC : nsIn K mainGlobals "Refused" = some (some (.ref C))) (zs : nsIn K mainGlobals "super" = some none)
    (xL : K.lookup C = some (excClassObj nm q C N bs bm true sn sub ab col dd m0 m1 m2 m3 m5 "ValueError.__new__")) (rv : refsVE bm = true)
    (sa : findIn K (.ref C) "__setattr__" = some (some (.builtin "object.__setattr__"))) (ga : findIn K (.ref C) "__getattribute__" = some (some (.builtin "BaseException.__getattribute__"))) (gg : findIn K (.ref C) "__getattr__" = some none)
    (nb : findIn K (.ref C) "what" = some none) (a1 : findIn K (.ref C) "__init__" = some (some (.ref fI))) (t1 : typeIn K (.ref fI) = some (.type "function"))
    (kC : keepIn K (.ref C) = true) (eC : subIn K (.ref C) (.type "BaseException") = some true) (vC : subIn K (.ref C) (.type "ValueError") = some true) (tC : typeIn K (.ref C) = some (.type "type")) (hC : hasDictIn K C = true) (iC : isClsIn K C = true)
    (sC : subIn K (.ref C) (.ref C) = some true) (me : mroIn K C (.ref C) = some true) (op : nsIn K cStatics "thirdparty.any" = some none) (si : ks_superIn K C C "__init__" = some (some (.builtin "ValueError.__init__")))
    (fi : ((prog.main.file : Str) == ("/claim/cut.py" : Str)) = true) (tp : (prog.main.scope.names.lookup ("super" : Str)).isSome = false)
    (l1 : K.lookup fI = some ⟨oc, od, .func (ksFn "__init__" "Refused.__init__" (L2.defArgs sRI) (L2.defBody sRI) (L2.defScope sRI) .none kV doc pm an (.ref cda) ct cc), osl⟩) (c1 : codeIn K (.ref cda) "Refused.__init__" = true)
    (l2 : K.lookup cda = some ⟨ccl, cdd, .fields vs, ccs⟩) (v2 : vs[2]? = some (.str "/claim/cut.py" tf)) (l3 : K.lookup cc = some ⟨cl, cld, .cell (some (.ref C)), csl⟩) : RefTxt prog K mg C fI :=
  { gC := mg_of X G aC, sup := mg_none_of X G zs, cls := ⟨nm, q, N, bs, bm, sn, sub, ab, col, dd, m0, m1, m2, m3, m5, xL, rv⟩, sa := sa, ga := ga, gg := gg, noN := nb, iC := a1, tC := t1, kC := kC, exC := eC, veC := vC, tyC := tC, hdC := hC,
    te := exm_self eC iC tC sC, me := me, op := op, si := si, file := fi, top := tp, fn := ⟨oc, od, kV, doc, pm, an, cda, cc, ct, osl, l1, c1, ⟨ccl, cdd, vs, ccs, tf, l2, v2⟩, ⟨cl, cld, csl, l3⟩⟩ }
end RefX
end PySem
namespace Tk
open PySem PySem.Spec PyProof.Rows L2
theorem ways_mk {K : PySem.W.Frag} {aw : Addr} {od : Option Addr} {sl : Array (Option Value)} {t1 t2 : Tok} {n : Nat} (l : K.lookup aw = some ⟨.type "tuple", od, .seq #[.str "there" t1, .str "back" t2] n, sl⟩) : ∀ H, SqT K H aw [.str "there", .str "back"] :=
  fun H => .inr ⟨_, _, n, l, rfl, rfl, line_pos (by show 2 ≤ 100000; decide), .cons ⟨_, rfl⟩ (.cons ⟨_, rfl⟩ .nil)⟩
theorem all_mk {l : PySem.W.OpenLaw} {w : World} {K : PySem.W.Frag} {h : Heap} {mg : Str → Option Value} {fa CR fR CS CK CT aW fbb fbo fyo fys fad fre fch fit fpk fup fmo fce fdr fge fle fpu fde fsn fto fdd fdn fis fla fSI fSQ fSO fSP fSV fSH fKI fKA fKH fTI fTQ fTP fTS fTC fTO fTR fTD fTV fTL fTT fTK fTF : Addr} (X : K.In h) (G : h.Ns mainGlobals mg) (hfa : mg "law" = some (.ref fa))
    {odbb anbb odbo anbo odyo anyo odys anys odad anad odre anre odch anch odit anit odpk anpk odup anup odmo anmo odce ance oddr andr odge ange odle anle odpu anpu odde ande odsn ansn odto anto oddd andd oddn andn odis anis odla anla odSI anSI odSQ anSQ odSO anSO odSP anSP odSV anSV odSH anSH odKI anKI odKA anKA odKH anKH odTI anTI odTQ anTQ odTP anTP odTS anTS odTC anTC odTO anTO odTR anTR odTD anTD odTV anTV odTL anTL odTT anTT odTK anTK odTF anTF odW : Option Addr} {slbb slbo slyo slys slad slre slch slit slpk slup slmo slce sldr slge slle slpu slde slsn slto sldd sldn slis slla slSI slSQ slSO slSP slSV slSH slKI slKA slKH slTI slTQ slTP slTS slTC slTO slTR slTD slTV slTL slTT slTK slTF slW : Array (Option Value)} {tB tL tM tW1 tW2 : Tok} {nW : Nat}
    {ocbb kVbb dcbb pmbb cdbb ctbb ocbo kVbo dcbo pmbo cdbo ctbo ocyo kVyo dcyo pmyo cdyo ctyo ocys kVys dcys pmys cdys ctys ocad kVad dcad pmad cdad ctad ocre kVre dcre pmre cdre ctre occh kVch dcch pmch cdch ctch ocit kVit dcit pmit cdit ctit ocpk kVpk dcpk pmpk cdpk ctpk ocup kVup dcup pmup cdup ctup ocmo kVmo dcmo pmmo cdmo ctmo occe kVce dcce pmce cdce ctce ocdr kVdr dcdr pmdr cddr ctdr ocge kVge dcge pmge cdge ctge ocle kVle dcle pmle cdle ctle ocpu kVpu dcpu pmpu cdpu ctpu ocde kVde dcde pmde cdde ctde ocsn kVsn dcsn pmsn cdsn ctsn octo kVto dcto pmto cdto ctto ocdd kVdd dcdd pmdd cddd ctdd ocdn kVdn dcdn pmdn cddn ctdn ocis kVis dcis pmis cdis ctis ocla kVla dcla pmla cdla ctla ocSI kVSI dcSI pmSI cdSI ctSI ocSQ kVSQ dcSQ pmSQ cdSQ ctSQ ocSO kVSO dcSO pmSO cdSO ctSO ocSP kVSP dcSP pmSP cdSP ctSP ocSV kVSV dcSV pmSV cdSV ctSV ocSH kVSH dcSH pmSH cdSH ctSH ocKI kVKI dcKI pmKI cdKI ctKI ocKA kVKA dcKA pmKA cdKA ctKA ocKH kVKH dcKH pmKH cdKH ctKH ocTI kVTI dcTI pmTI cdTI ctTI ocTQ kVTQ dcTQ pmTQ cdTQ ctTQ ocTP kVTP dcTP pmTP cdTP ctTP ocTS kVTS dcTS pmTS cdTS ctTS ocTC kVTC dcTC pmTC cdTC ctTC ocTO kVTO dcTO pmTO cdTO ctTO ocTR kVTR dcTR pmTR cdTR ctTR ocTD kVTD dcTD pmTD cdTD ctTD ocTV kVTV dcTV pmTV cdTV ctTV ocTL kVTL dcTL pmTL cdTL ctTL ocTT kVTT dcTT pmTT cdTT ctTT ocTK kVTK dcTK pmTK cdTK ctTK ocTF kVTF dcTF pmTF cdTF ctTF : Value}
    (TR : PySem.RefX.RefTxt l.prog K mg CR fR)
    (abb : PySem.W.nsIn K mainGlobals "byte_bits" = some (some (.ref fbb)))
    (lbb : K.lookup fbb = some ⟨ocbb, odbb, .func (PySem.W.fnOf "byte_bits" "byte_bits" (defArgs sBB) (defBody sBB) (defScope sBB) .none kVbb dcbb pmbb anbb cdbb ctbb), slbb⟩)
    (cbb : PySem.W.codeIn K cdbb "byte_bits" = true)
    (kbb : PySem.W.keepIn K (.ref fbb) = true)
    (abo : PySem.W.nsIn K mainGlobals "bits_of" = some (some (.ref fbo)))
    (lbo : K.lookup fbo = some ⟨ocbo, odbo, .func (PySem.W.fnOf "bits_of" "bits_of" (defArgs sBitsOf) (defBody sBitsOf) (defScope sBitsOf) .none kVbo dcbo pmbo anbo cdbo ctbo), slbo⟩)
    (cbo : PySem.W.codeIn K cdbo "bits_of" = true)
    (kbo : PySem.W.keepIn K (.ref fbo) = true)
    (ayo : PySem.W.nsIn K mainGlobals "byte_of" = some (some (.ref fyo)))
    (lyo : K.lookup fyo = some ⟨ocyo, odyo, .func (PySem.W.fnOf "byte_of" "byte_of" (defArgs sByteOf) (defBody sByteOf) (defScope sByteOf) .none kVyo dcyo pmyo anyo cdyo ctyo), slyo⟩)
    (cyo : PySem.W.codeIn K cdyo "byte_of" = true)
    (kyo : PySem.W.keepIn K (.ref fyo) = true)
    (ays : PySem.W.nsIn K mainGlobals "bytes_of" = some (some (.ref fys)))
    (lys : K.lookup fys = some ⟨ocys, odys, .func (PySem.W.fnOf "bytes_of" "bytes_of" (defArgs sBytesOf) (defBody sBytesOf) (defScope sBytesOf) .none kVys dcys pmys anys cdys ctys), slys⟩)
    (cys : PySem.W.codeIn K cdys "bytes_of" = true)
    (kys : PySem.W.keepIn K (.ref fys) = true)
    (aad : PySem.W.nsIn K mainGlobals "added" = some (some (.ref fad)))
    (lad : K.lookup fad = some ⟨ocad, odad, .func (PySem.W.fnOf "added" "added" (defArgs sAdded) (defBody sAdded) (defScope sAdded) .none kVad dcad pmad anad cdad ctad), slad⟩)
    (cad : PySem.W.codeIn K cdad "added" = true)
    (kad : PySem.W.keepIn K (.ref fad) = true)
    (are : PySem.W.nsIn K mainGlobals "remainder" = some (some (.ref fre)))
    (lre : K.lookup fre = some ⟨ocre, odre, .func (PySem.W.fnOf "remainder" "remainder" (defArgs sRem) (defBody sRem) (defScope sRem) .none kVre dcre pmre anre cdre ctre), slre⟩)
    (cre : PySem.W.codeIn K cdre "remainder" = true)
    (kre : PySem.W.keepIn K (.ref fre) = true)
    (ach : PySem.W.nsIn K mainGlobals "check_bits" = some (some (.ref fch)))
    (lch : K.lookup fch = some ⟨occh, odch, .func (PySem.W.fnOf "check_bits" "check_bits" (defArgs sCheck) (defBody sCheck) (defScope sCheck) .none kVch dcch pmch anch cdch ctch), slch⟩)
    (cch : PySem.W.codeIn K cdch "check_bits" = true)
    (kch : PySem.W.keepIn K (.ref fch) = true)
    (ait : PySem.W.nsIn K mainGlobals "is_intact" = some (some (.ref fit)))
    (lit : K.lookup fit = some ⟨ocit, odit, .func (PySem.W.fnOf "is_intact" "is_intact" (defArgs sIntact) (defBody sIntact) (defScope sIntact) .none kVit dcit pmit anit cdit ctit), slit⟩)
    (cit : PySem.W.codeIn K cdit "is_intact" = true)
    (kit : PySem.W.keepIn K (.ref fit) = true)
    (apk : PySem.W.nsIn K mainGlobals "pack" = some (some (.ref fpk)))
    (lpk : K.lookup fpk = some ⟨ocpk, odpk, .func (PySem.W.fnOf "pack" "pack" (defArgs sPack) (defBody sPack) (defScope sPack) .none kVpk dcpk pmpk anpk cdpk ctpk), slpk⟩)
    (cpk : PySem.W.codeIn K cdpk "pack" = true)
    (kpk : PySem.W.keepIn K (.ref fpk) = true)
    (aup : PySem.W.nsIn K mainGlobals "unpack" = some (some (.ref fup)))
    (lup : K.lookup fup = some ⟨ocup, odup, .func (PySem.W.fnOf "unpack" "unpack" (defArgs sUnpack) (defBody sUnpack) (defScope sUnpack) .none kVup dcup pmup anup cdup ctup), slup⟩)
    (cup : PySem.W.codeIn K cdup "unpack" = true)
    (kup : PySem.W.keepIn K (.ref fup) = true)
    (amo : PySem.W.nsIn K mainGlobals "modulus_of" = some (some (.ref fmo)))
    (lmo : K.lookup fmo = some ⟨ocmo, odmo, .func (PySem.W.fnOf "modulus_of" "modulus_of" (defArgs sMod) (defBody sMod) (defScope sMod) .none kVmo dcmo pmmo anmo cdmo ctmo), slmo⟩)
    (cmo : PySem.W.codeIn K cdmo "modulus_of" = true)
    (kmo : PySem.W.keepIn K (.ref fmo) = true)
    (ace : PySem.W.nsIn K mainGlobals "_law_cell" = some (some (.ref fce)))
    (lce : K.lookup fce = some ⟨occe, odce, .func (PySem.W.fnOf "_law_cell" "_law_cell" (defArgs sCell) (defBody sCell) (defScope sCell) .none kVce dcce pmce ance cdce ctce), slce⟩)
    (cce : PySem.W.codeIn K cdce "_law_cell" = true)
    (kce : PySem.W.keepIn K (.ref fce) = true)
    (adr : PySem.W.nsIn K mainGlobals "_law_draws" = some (some (.ref fdr)))
    (ldr : K.lookup fdr = some ⟨ocdr, oddr, .func (PySem.W.fnOf "_law_draws" "_law_draws" (defArgs sDraws) (defBody sDraws) (defScope sDraws) .none kVdr dcdr pmdr andr cddr ctdr), sldr⟩)
    (cdr : PySem.W.codeIn K cddr "_law_draws" = true)
    (kdr : PySem.W.keepIn K (.ref fdr) = true)
    (age : PySem.W.nsIn K mainGlobals "_law_generator" = some (some (.ref fge)))
    (lge : K.lookup fge = some ⟨ocge, odge, .func (PySem.W.fnOf "_law_generator" "_law_generator" (defArgs sGen) (defBody sGen) (defScope sGen) .none kVge dcge pmge ange cdge ctge), slge⟩)
    (cge : PySem.W.codeIn K cdge "_law_generator" = true)
    (kge : PySem.W.keepIn K (.ref fge) = true)
    (ale : PySem.W.nsIn K mainGlobals "_law_letter" = some (some (.ref fle)))
    (lle : K.lookup fle = some ⟨ocle, odle, .func (PySem.W.fnOf "_law_letter" "_law_letter" (defArgs sLet) (defBody sLet) (defScope sLet) .none kVle dcle pmle anle cdle ctle), slle⟩)
    (cle : PySem.W.codeIn K cdle "_law_letter" = true)
    (kle : PySem.W.keepIn K (.ref fle) = true)
    (apu : PySem.W.nsIn K mainGlobals "_law_put" = some (some (.ref fpu)))
    (lpu : K.lookup fpu = some ⟨ocpu, odpu, .func (PySem.W.fnOf "_law_put" "_law_put" (defArgs sPut) (defBody sPut) (defScope sPut) .none kVpu dcpu pmpu anpu cdpu ctpu), slpu⟩)
    (cpu : PySem.W.codeIn K cdpu "_law_put" = true)
    (kpu : PySem.W.keepIn K (.ref fpu) = true)
    (ade : PySem.W.nsIn K mainGlobals "_law_delivered" = some (some (.ref fde)))
    (lde : K.lookup fde = some ⟨ocde, odde, .func (PySem.W.fnOf "_law_delivered" "_law_delivered" (defArgs sDel) (defBody sDel) (defScope sDel) .none kVde dcde pmde ande cdde ctde), slde⟩)
    (cde : PySem.W.codeIn K cdde "_law_delivered" = true)
    (kde : PySem.W.keepIn K (.ref fde) = true)
    (asn : PySem.W.nsIn K mainGlobals "_law_sent" = some (some (.ref fsn)))
    (lsn : K.lookup fsn = some ⟨ocsn, odsn, .func (PySem.W.fnOf "_law_sent" "_law_sent" (defArgs sSent) (defBody sSent) (defScope sSent) .none kVsn dcsn pmsn ansn cdsn ctsn), slsn⟩)
    (csn : PySem.W.codeIn K cdsn "_law_sent" = true)
    (ksn : PySem.W.keepIn K (.ref fsn) = true)
    (ato : PySem.W.nsIn K mainGlobals "_law_told" = some (some (.ref fto)))
    (lto : K.lookup fto = some ⟨octo, odto, .func (PySem.W.fnOf "_law_told" "_law_told" (defArgs sTold) (defBody sTold) (defScope sTold) .none kVto dcto pmto anto cdto ctto), slto⟩)
    (cto : PySem.W.codeIn K cdto "_law_told" = true)
    (kto : PySem.W.keepIn K (.ref fto) = true)
    (add : PySem.W.nsIn K mainGlobals "_law_deed" = some (some (.ref fdd)))
    (ldd : K.lookup fdd = some ⟨ocdd, oddd, .func (PySem.W.fnOf "_law_deed" "_law_deed" (defArgs sDeed) (defBody sDeed) (defScope sDeed) .none kVdd dcdd pmdd andd cddd ctdd), sldd⟩)
    (cdd : PySem.W.codeIn K cddd "_law_deed" = true)
    (kdd : PySem.W.keepIn K (.ref fdd) = true)
    (adn : PySem.W.nsIn K mainGlobals "_law_done" = some (some (.ref fdn)))
    (ldn : K.lookup fdn = some ⟨ocdn, oddn, .func (PySem.W.fnOf "_law_done" "_law_done" (defArgs sDone) (defBody sDone) (defScope sDone) .none kVdn dcdn pmdn andn cddn ctdn), sldn⟩)
    (cdn : PySem.W.codeIn K cddn "_law_done" = true)
    (kdn : PySem.W.keepIn K (.ref fdn) = true)
    (ais : PySem.W.nsIn K mainGlobals "_law_is_it" = some (some (.ref fis)))
    (lis : K.lookup fis = some ⟨ocis, odis, .func (PySem.W.fnOf "_law_is_it" "_law_is_it" (defArgs sIs) (defBody sIs) (defScope sIs) .none kVis dcis pmis anis cdis ctis), slis⟩)
    (cis : PySem.W.codeIn K cdis "_law_is_it" = true)
    (kis : PySem.W.keepIn K (.ref fis) = true)
    (ala : PySem.W.nsIn K mainGlobals "law" = some (some (.ref fla)))
    (lla : K.lookup fla = some ⟨ocla, odla, .func (PySem.W.fnOf "law" "law" (defArgs sLaw) (defBody sLaw) (defScope sLaw) .none kVla dcla pmla anla cdla ctla), slla⟩)
    (cla : PySem.W.codeIn K cdla "law" = true)
    (kla : PySem.W.keepIn K (.ref fla) = true)
    (gS : PySem.W.nsIn K mainGlobals "Sender" = some (some (.ref CS)))
    (pgS : PySem.W.plainGet K CS Str.empty = true)
    (hdS : PySem.W.hasDictIn K CS = true)
    (poS : PySem.W.plainOver K CS = true)
    (saS : PySem.W.findIn K (.ref CS) "__setattr__" = some (some (.builtin "object.__setattr__")))
    (mkS : PySem.W.makesIn K CS = true)
    (kcS : PySem.W.keepIn K (.ref CS) = true)
    (nS0 : PySem.W.findIn K (.ref CS) "window" = some none)
    (nS1 : PySem.W.findIn K (.ref CS) "generator" = some none)
    (nS2 : PySem.W.findIn K (.ref CS) "letters" = some none)
    (nS3 : PySem.W.findIn K (.ref CS) "done" = some none)
    (gK : PySem.W.nsIn K mainGlobals "Taker" = some (some (.ref CK)))
    (pgK : PySem.W.plainGet K CK Str.empty = true)
    (hdK : PySem.W.hasDictIn K CK = true)
    (poK : PySem.W.plainOver K CK = true)
    (saK : PySem.W.findIn K (.ref CK) "__setattr__" = some (some (.builtin "object.__setattr__")))
    (mkK : PySem.W.makesIn K CK = true)
    (kcK : PySem.W.keepIn K (.ref CK) = true)
    (nK0 : PySem.W.findIn K (.ref CK) "window" = some none)
    (nK1 : PySem.W.findIn K (.ref CK) "generator" = some none)
    (nK2 : PySem.W.findIn K (.ref CK) "letters" = some none)
    (gT : PySem.W.nsIn K mainGlobals "Talk" = some (some (.ref CT)))
    (pgT : PySem.W.plainGet K CT Str.empty = true)
    (hdT : PySem.W.hasDictIn K CT = true)
    (poT : PySem.W.plainOver K CT = true)
    (saT : PySem.W.findIn K (.ref CT) "__setattr__" = some (some (.builtin "object.__setattr__")))
    (mkT : PySem.W.makesIn K CT = true)
    (kcT : PySem.W.keepIn K (.ref CT) = true)
    (nT0 : PySem.W.findIn K (.ref CT) "window" = some none)
    (nT1 : PySem.W.findIn K (.ref CT) "generator" = some none)
    (nT2 : PySem.W.findIn K (.ref CT) "sender" = some none)
    (nT3 : PySem.W.findIn K (.ref CT) "taker" = some none)
    (nT4 : PySem.W.findIn K (.ref CT) "lines" = some none)
    (aSI : PySem.W.findIn K (.ref CS) "__init__" = some (some (.ref fSI)))
    (iSI : PySem.W.isFn K (.ref fSI) = true)
    (lSI : K.lookup fSI = some ⟨ocSI, odSI, .func (PySem.W.fnOf "__init__" "Sender.__init__" (defArgs sSI) (defBody sSI) (defScope sSI) .none kVSI dcSI pmSI anSI cdSI ctSI), slSI⟩)
    (cSI : PySem.W.codeIn K cdSI "Sender.__init__" = true)
    (kSI : PySem.W.keepIn K (.ref fSI) = true)
    (aSQ : PySem.W.findIn K (.ref CS) "queue" = some (some (.ref fSQ)))
    (iSQ : PySem.W.isFn K (.ref fSQ) = true)
    (lSQ : K.lookup fSQ = some ⟨ocSQ, odSQ, .func (PySem.W.fnOf "queue" "Sender.queue" (defArgs sSQ) (defBody sSQ) (defScope sSQ) .none kVSQ dcSQ pmSQ anSQ cdSQ ctSQ), slSQ⟩)
    (cSQ : PySem.W.codeIn K cdSQ "Sender.queue" = true)
    (kSQ : PySem.W.keepIn K (.ref fSQ) = true)
    (aSO : PySem.W.findIn K (.ref CS) "open_letters" = some (some (.ref fSO)))
    (iSO : PySem.W.isFn K (.ref fSO) = true)
    (lSO : K.lookup fSO = some ⟨ocSO, odSO, .func (PySem.W.fnOf "open_letters" "Sender.open_letters" (defArgs sSO) (defBody sSO) (defScope sSO) .none kVSO dcSO pmSO anSO cdSO ctSO), slSO⟩)
    (cSO : PySem.W.codeIn K cdSO "Sender.open_letters" = true)
    (kSO : PySem.W.keepIn K (.ref fSO) = true)
    (aSP : PySem.W.findIn K (.ref CS) "payload" = some (some (.ref fSP)))
    (iSP : PySem.W.isFn K (.ref fSP) = true)
    (lSP : K.lookup fSP = some ⟨ocSP, odSP, .func (PySem.W.fnOf "payload" "Sender.payload" (defArgs sSP) (defBody sSP) (defScope sSP) .none kVSP dcSP pmSP anSP cdSP ctSP), slSP⟩)
    (cSP : PySem.W.codeIn K cdSP "Sender.payload" = true)
    (kSP : PySem.W.keepIn K (.ref fSP) = true)
    (aSV : PySem.W.findIn K (.ref CS) "payloads" = some (some (.ref fSV)))
    (iSV : PySem.W.isFn K (.ref fSV) = true)
    (lSV : K.lookup fSV = some ⟨ocSV, odSV, .func (PySem.W.fnOf "payloads" "Sender.payloads" (defArgs sSPs) (defBody sSPs) (defScope sSPs) .none kVSV dcSV pmSV anSV cdSV ctSV), slSV⟩)
    (cSV : PySem.W.codeIn K cdSV "Sender.payloads" = true)
    (kSV : PySem.W.keepIn K (.ref fSV) = true)
    (aSH : PySem.W.findIn K (.ref CS) "hear" = some (some (.ref fSH)))
    (iSH : PySem.W.isFn K (.ref fSH) = true)
    (lSH : K.lookup fSH = some ⟨ocSH, odSH, .func (PySem.W.fnOf "hear" "Sender.hear" (defArgs sSH) (defBody sSH) (defScope sSH) .none kVSH dcSH pmSH anSH cdSH ctSH), slSH⟩)
    (cSH : PySem.W.codeIn K cdSH "Sender.hear" = true)
    (kSH : PySem.W.keepIn K (.ref fSH) = true)
    (aKI : PySem.W.findIn K (.ref CK) "__init__" = some (some (.ref fKI)))
    (iKI : PySem.W.isFn K (.ref fKI) = true)
    (lKI : K.lookup fKI = some ⟨ocKI, odKI, .func (PySem.W.fnOf "__init__" "Taker.__init__" (defArgs sKI) (defBody sKI) (defScope sKI) .none kVKI dcKI pmKI anKI cdKI ctKI), slKI⟩)
    (cKI : PySem.W.codeIn K cdKI "Taker.__init__" = true)
    (kKI : PySem.W.keepIn K (.ref fKI) = true)
    (aKA : PySem.W.findIn K (.ref CK) "answer" = some (some (.ref fKA)))
    (iKA : PySem.W.isFn K (.ref fKA) = true)
    (lKA : K.lookup fKA = some ⟨ocKA, odKA, .func (PySem.W.fnOf "answer" "Taker.answer" (defArgs sKA) (defBody sKA) (defScope sKA) .none kVKA dcKA pmKA anKA cdKA ctKA), slKA⟩)
    (cKA : PySem.W.codeIn K cdKA "Taker.answer" = true)
    (kKA : PySem.W.keepIn K (.ref fKA) = true)
    (aKH : PySem.W.findIn K (.ref CK) "hear" = some (some (.ref fKH)))
    (iKH : PySem.W.isFn K (.ref fKH) = true)
    (lKH : K.lookup fKH = some ⟨ocKH, odKH, .func (PySem.W.fnOf "hear" "Taker.hear" (defArgs sKH) (defBody sKH) (defScope sKH) .none kVKH dcKH pmKH anKH cdKH ctKH), slKH⟩)
    (cKH : PySem.W.codeIn K cdKH "Taker.hear" = true)
    (kKH : PySem.W.keepIn K (.ref fKH) = true)
    (aTI : PySem.W.findIn K (.ref CT) "__init__" = some (some (.ref fTI)))
    (iTI : PySem.W.isFn K (.ref fTI) = true)
    (lTI : K.lookup fTI = some ⟨ocTI, odTI, .func (PySem.W.fnOf "__init__" "Talk.__init__" (defArgs (sTM 0)) (defBody (sTM 0)) (defScope (sTM 0)) .none kVTI dcTI pmTI anTI cdTI ctTI), slTI⟩)
    (cTI : PySem.W.codeIn K cdTI "Talk.__init__" = true)
    (kTI : PySem.W.keepIn K (.ref fTI) = true)
    (aTQ : PySem.W.findIn K (.ref CT) "queue" = some (some (.ref fTQ)))
    (iTQ : PySem.W.isFn K (.ref fTQ) = true)
    (lTQ : K.lookup fTQ = some ⟨ocTQ, odTQ, .func (PySem.W.fnOf "queue" "Talk.queue" (defArgs (sTM 1)) (defBody (sTM 1)) (defScope (sTM 1)) .none kVTQ dcTQ pmTQ anTQ cdTQ ctTQ), slTQ⟩)
    (cTQ : PySem.W.codeIn K cdTQ "Talk.queue" = true)
    (kTQ : PySem.W.keepIn K (.ref fTQ) = true)
    (aTP : PySem.W.findIn K (.ref CT) "put" = some (some (.ref fTP)))
    (iTP : PySem.W.isFn K (.ref fTP) = true)
    (lTP : K.lookup fTP = some ⟨ocTP, odTP, .func (PySem.W.fnOf "put" "Talk.put" (defArgs (sTM 2)) (defBody (sTM 2)) (defScope (sTM 2)) .none kVTP dcTP pmTP anTP cdTP ctTP), slTP⟩)
    (cTP : PySem.W.codeIn K cdTP "Talk.put" = true)
    (kTP : PySem.W.keepIn K (.ref fTP) = true)
    (aTS : PySem.W.findIn K (.ref CT) "send" = some (some (.ref fTS)))
    (iTS : PySem.W.isFn K (.ref fTS) = true)
    (lTS : K.lookup fTS = some ⟨ocTS, odTS, .func (PySem.W.fnOf "send" "Talk.send" (defArgs (sTM 3)) (defBody (sTM 3)) (defScope (sTM 3)) .none kVTS dcTS pmTS anTS cdTS ctTS), slTS⟩)
    (cTS : PySem.W.codeIn K cdTS "Talk.send" = true)
    (kTS : PySem.W.keepIn K (.ref fTS) = true)
    (aTC : PySem.W.findIn K (.ref CT) "check_place" = some (some (.ref fTC)))
    (iTC : PySem.W.isFn K (.ref fTC) = true)
    (lTC : K.lookup fTC = some ⟨ocTC, odTC, .func (PySem.W.fnOf "check_place" "Talk.check_place" (defArgs (sTM 4)) (defBody (sTM 4)) (defScope (sTM 4)) .none kVTC dcTC pmTC anTC cdTC ctTC), slTC⟩)
    (cTC : PySem.W.codeIn K cdTC "Talk.check_place" = true)
    (kTC : PySem.W.keepIn K (.ref fTC) = true)
    (aTO : PySem.W.findIn K (.ref CT) "lose" = some (some (.ref fTO)))
    (iTO : PySem.W.isFn K (.ref fTO) = true)
    (lTO : K.lookup fTO = some ⟨ocTO, odTO, .func (PySem.W.fnOf "lose" "Talk.lose" (defArgs (sTM 5)) (defBody (sTM 5)) (defScope (sTM 5)) .none kVTO dcTO pmTO anTO cdTO ctTO), slTO⟩)
    (cTO : PySem.W.codeIn K cdTO "Talk.lose" = true)
    (kTO : PySem.W.keepIn K (.ref fTO) = true)
    (aTR : PySem.W.findIn K (.ref CT) "repeat" = some (some (.ref fTR)))
    (iTR : PySem.W.isFn K (.ref fTR) = true)
    (lTR : K.lookup fTR = some ⟨ocTR, odTR, .func (PySem.W.fnOf "repeat" "Talk.repeat" (defArgs (sTM 6)) (defBody (sTM 6)) (defScope (sTM 6)) .none kVTR dcTR pmTR anTR cdTR ctTR), slTR⟩)
    (cTR : PySem.W.codeIn K cdTR "Talk.repeat" = true)
    (kTR : PySem.W.keepIn K (.ref fTR) = true)
    (aTD : PySem.W.findIn K (.ref CT) "damage" = some (some (.ref fTD)))
    (iTD : PySem.W.isFn K (.ref fTD) = true)
    (lTD : K.lookup fTD = some ⟨ocTD, odTD, .func (PySem.W.fnOf "damage" "Talk.damage" (defArgs (sTM 7)) (defBody (sTM 7)) (defScope (sTM 7)) .none kVTD dcTD pmTD anTD cdTD ctTD), slTD⟩)
    (cTD : PySem.W.codeIn K cdTD "Talk.damage" = true)
    (kTD : PySem.W.keepIn K (.ref fTD) = true)
    (aTV : PySem.W.findIn K (.ref CT) "deliver" = some (some (.ref fTV)))
    (iTV : PySem.W.isFn K (.ref fTV) = true)
    (lTV : K.lookup fTV = some ⟨ocTV, odTV, .func (PySem.W.fnOf "deliver" "Talk.deliver" (defArgs (sTM 8)) (defBody (sTM 8)) (defScope (sTM 8)) .none kVTV dcTV pmTV anTV cdTV ctTV), slTV⟩)
    (cTV : PySem.W.codeIn K cdTV "Talk.deliver" = true)
    (kTV : PySem.W.keepIn K (.ref fTV) = true)
    (aTL : PySem.W.findIn K (.ref CT) "line" = some (some (.ref fTL)))
    (iTL : PySem.W.isFn K (.ref fTL) = true)
    (lTL : K.lookup fTL = some ⟨ocTL, odTL, .func (PySem.W.fnOf "line" "Talk.line" (defArgs (sTM 9)) (defBody (sTM 9)) (defScope (sTM 9)) .none kVTL dcTL pmTL anTL cdTL ctTL), slTL⟩)
    (cTL : PySem.W.codeIn K cdTL "Talk.line" = true)
    (kTL : PySem.W.keepIn K (.ref fTL) = true)
    (aTT : PySem.W.findIn K (.ref CT) "taken" = some (some (.ref fTT)))
    (iTT : PySem.W.isFn K (.ref fTT) = true)
    (lTT : K.lookup fTT = some ⟨ocTT, odTT, .func (PySem.W.fnOf "taken" "Talk.taken" (defArgs (sTM 10)) (defBody (sTM 10)) (defScope (sTM 10)) .none kVTT dcTT pmTT anTT cdTT ctTT), slTT⟩)
    (cTT : PySem.W.codeIn K cdTT "Talk.taken" = true)
    (kTT : PySem.W.keepIn K (.ref fTT) = true)
    (aTK : PySem.W.findIn K (.ref CT) "known" = some (some (.ref fTK)))
    (iTK : PySem.W.isFn K (.ref fTK) = true)
    (lTK : K.lookup fTK = some ⟨ocTK, odTK, .func (PySem.W.fnOf "known" "Talk.known" (defArgs (sTM 11)) (defBody (sTM 11)) (defScope (sTM 11)) .none kVTK dcTK pmTK anTK cdTK ctTK), slTK⟩)
    (cTK : PySem.W.codeIn K cdTK "Talk.known" = true)
    (kTK : PySem.W.keepIn K (.ref fTK) = true)
    (aTF : PySem.W.findIn K (.ref CT) "finish" = some (some (.ref fTF)))
    (iTF : PySem.W.isFn K (.ref fTF) = true)
    (lTF : K.lookup fTF = some ⟨ocTF, odTF, .func (PySem.W.fnOf "finish" "Talk.finish" (defArgs (sTM 12)) (defBody (sTM 12)) (defScope (sTM 12)) .none kVTF dcTF pmTF anTF cdTF ctTF), slTF⟩)
    (cTF : PySem.W.codeIn K cdTF "Talk.finish" = true)
    (kTF : PySem.W.keepIn K (.ref fTF) = true)
    (zlen : PySem.W.nsIn K mainGlobals "len" = some none)
    (zrange : PySem.W.nsIn K mainGlobals "range" = some none)
    (zstr : PySem.W.nsIn K mainGlobals "str" = some none)
    (zint : PySem.W.nsIn K mainGlobals "int" = some none)
    (zenumerate : PySem.W.nsIn K mainGlobals "enumerate" = some none)
    (ztuple : PySem.W.nsIn K mainGlobals "tuple" = some none)
    (zlist : PySem.W.nsIn K mainGlobals "list" = some none)
    (zmin : PySem.W.nsIn K mainGlobals "min" = some none)
    (yB : PySem.W.nsIn K mainGlobals "BYTE_SIZE" = some (some (.int 8 tB)))
    (yL : PySem.W.nsIn K mainGlobals "LETTERS_MOST" = some (some (.int 60 tL)))
    (yM : PySem.W.nsIn K mainGlobals "LINE_MOST" = some (some (.int 40 tM)))
    (yW : PySem.W.nsIn K mainGlobals "WAYS" = some (some (.ref aW)))
    (lW : K.lookup aW = some ⟨.type "tuple", odW, .seq #[.str "there" tW1, .str "back" tW2] nW, slW⟩)
    : ∃ fd : FuncData, (∀ (s : Shared) (v : Value), BindsTo s fd ⟨[v], []⟩ [("_law_script", v)]) ∧ ∀ base : Heap, K.In base → base.Ns mainGlobals mg → FnOk l.prog w K mg base CX0 9 fa fd ["_law_script"] (spLaw K) := by
  have e := hfa.symm.trans (PySem.W.mg_of X G ala)
  cases e
  have glen := PySem.W.mg_none_of X G zlen
  have grange := PySem.W.mg_none_of X G zrange
  have gstr := PySem.W.mg_none_of X G zstr
  have gint := PySem.W.mg_none_of X G zint
  have genumerate := PySem.W.mg_none_of X G zenumerate
  have gtuple := PySem.W.mg_none_of X G ztuple
  have glist := PySem.W.mg_none_of X G zlist
  have gmin := PySem.W.mg_none_of X G zmin
  have hB : ∃ t, mg "BYTE_SIZE" = some (.int 8 t) := ⟨_, PySem.W.mg_of X G yB⟩
  have hL : ∃ t, mg "LETTERS_MOST" = some (.int 60 t) := ⟨_, PySem.W.mg_of X G yL⟩
  have hM : ∃ t, mg "LINE_MOST" = some (.int 40 t) := ⟨_, PySem.W.mg_of X G yM⟩
  have hW : ∃ aw, mg "WAYS" = some (.ref aw) ∧ ∀ H, SqT K H aw [.str "there", .str "back"] := ⟨_, PySem.W.mg_of X G yW, ways_mk lW⟩
  have cS : Cls K CS := ⟨pgS, hdS, poS, saS⟩
  have XS : TxS K CS := ⟨cS, nS0, nS1, nS2, nS3⟩
  have cK : Cls K CK := ⟨pgK, hdK, poK, saK⟩
  have XK : TxK K CK := ⟨cK, nK0, nK1, nK2⟩
  have cT : Cls K CT := ⟨pgT, hdT, poT, saT⟩
  have XT : TxT K CT := ⟨cT, nT0, nT1, nT2, nT3, nT4⟩
  have Fbb := fun_mk (st := sBB) lbb cbb kbb
  have bbb := Fbb.binds (ps := ["number"]) fun _ _ _ _ _ _ us hl => match us, hl with | [_], _ => rfl
  have Dbb : Def K mg "byte_bits" sBB ["number"] _ _ := ⟨Fbb, PySem.W.mg_of X G abb, bbb⟩
  have Fbo := fun_mk (st := sBitsOf) lbo cbo kbo
  have bbo := Fbo.binds (ps := ["numbers"]) fun _ _ _ _ _ _ us hl => match us, hl with | [_], _ => rfl
  have Dbo : Def K mg "bits_of" sBitsOf ["numbers"] _ _ := ⟨Fbo, PySem.W.mg_of X G abo, bbo⟩
  have Fyo := fun_mk (st := sByteOf) lyo cyo kyo
  have byo := Fyo.binds (ps := ["bits"]) fun _ _ _ _ _ _ us hl => match us, hl with | [_], _ => rfl
  have Dyo : Def K mg "byte_of" sByteOf ["bits"] _ _ := ⟨Fyo, PySem.W.mg_of X G ayo, byo⟩
  have Fys := fun_mk (st := sBytesOf) lys cys kys
  have bys := Fys.binds (ps := ["bits"]) fun _ _ _ _ _ _ us hl => match us, hl with | [_], _ => rfl
  have Dys : Def K mg "bytes_of" sBytesOf ["bits"] _ _ := ⟨Fys, PySem.W.mg_of X G ays, bys⟩
  have Fad := fun_mk (st := sAdded) lad cad kad
  have bad := Fad.binds (ps := ["one", "two"]) fun _ _ _ _ _ _ us hl => match us, hl with | [_, _], _ => rfl
  have Dad : Def K mg "added" sAdded ["one", "two"] _ _ := ⟨Fad, PySem.W.mg_of X G aad, bad⟩
  have Fre := fun_mk (st := sRem) lre cre kre
  have bre := Fre.binds (ps := ["generator", "bits"]) fun _ _ _ _ _ _ us hl => match us, hl with | [_, _], _ => rfl
  have Dre : Def K mg "remainder" sRem ["generator", "bits"] _ _ := ⟨Fre, PySem.W.mg_of X G are, bre⟩
  have Fch := fun_mk (st := sCheck) lch cch kch
  have bch := Fch.binds (ps := ["generator", "bits"]) fun _ _ _ _ _ _ us hl => match us, hl with | [_, _], _ => rfl
  have Dch : Def K mg "check_bits" sCheck ["generator", "bits"] _ _ := ⟨Fch, PySem.W.mg_of X G ach, bch⟩
  have Fit := fun_mk (st := sIntact) lit cit kit
  have bit := Fit.binds (ps := ["generator", "bits"]) fun _ _ _ _ _ _ us hl => match us, hl with | [_, _], _ => rfl
  have Dit : Def K mg "is_intact" sIntact ["generator", "bits"] _ _ := ⟨Fit, PySem.W.mg_of X G ait, bit⟩
  have Fpk := fun_mk (st := sPack) lpk cpk kpk
  have bpk := Fpk.binds (ps := ["generator", "numbers"]) fun _ _ _ _ _ _ us hl => match us, hl with | [_, _], _ => rfl
  have Dpk : Def K mg "pack" sPack ["generator", "numbers"] _ _ := ⟨Fpk, PySem.W.mg_of X G apk, bpk⟩
  have Fup := fun_mk (st := sUnpack) lup cup kup
  have bup := Fup.binds (ps := ["generator", "bits"]) fun _ _ _ _ _ _ us hl => match us, hl with | [_, _], _ => rfl
  have Dup : Def K mg "unpack" sUnpack ["generator", "bits"] _ _ := ⟨Fup, PySem.W.mg_of X G aup, bup⟩
  have Fmo := fun_mk (st := sMod) lmo cmo kmo
  have bmo := Fmo.binds (ps := ["window"]) fun _ _ _ _ _ _ us hl => match us, hl with | [_], _ => rfl
  have Dmo : Def K mg "modulus_of" sMod ["window"] _ _ := ⟨Fmo, PySem.W.mg_of X G amo, bmo⟩
  have Fce := fun_mk (st := sCell) lce cce kce
  have bce := Fce.binds (ps := ["_law_script", "_law_k"]) fun _ _ _ _ _ _ us hl => match us, hl with | [_, _], _ => rfl
  have Dce : Def K mg "_law_cell" sCell ["_law_script", "_law_k"] _ _ := ⟨Fce, PySem.W.mg_of X G ace, bce⟩
  have Fdr := fun_mk (st := sDraws) ldr cdr kdr
  have bdr := Fdr.binds (ps := ["_law_cell_here", "_law_count"]) fun _ _ _ _ _ _ us hl => match us, hl with | [_, _], _ => rfl
  have Ddr : Def K mg "_law_draws" sDraws ["_law_cell_here", "_law_count"] _ _ := ⟨Fdr, PySem.W.mg_of X G adr, bdr⟩
  have Fge := fun_mk (st := sGen) lge cge kge
  have bge := Fge.binds (ps := ["_law_cell_here"]) fun _ _ _ _ _ _ us hl => match us, hl with | [_], _ => rfl
  have Dge : Def K mg "_law_generator" sGen ["_law_cell_here"] _ _ := ⟨Fge, PySem.W.mg_of X G age, bge⟩
  have Fle := fun_mk (st := sLet) lle cle kle
  have ble := Fle.binds (ps := ["_law_cell_here", "_law_most"]) fun _ _ _ _ _ _ us hl => match us, hl with | [_, _], _ => rfl
  have Dle : Def K mg "_law_letter" sLet ["_law_cell_here", "_law_most"] _ _ := ⟨Fle, PySem.W.mg_of X G ale, ble⟩
  have Fpu := fun_mk (st := sPut) lpu cpu kpu
  have bpu := Fpu.binds (ps := ["_law_line", "_law_payload"]) fun _ _ _ _ _ _ us hl => match us, hl with | [_, _], _ => rfl
  have Dpu : Def K mg "_law_put" sPut ["_law_line", "_law_payload"] _ _ := ⟨Fpu, PySem.W.mg_of X G apu, bpu⟩
  have Fde := fun_mk (st := sDel) lde cde kde
  have bde := Fde.binds (ps := ["_law_model", "_law_way"]) fun _ _ _ _ _ _ us hl => match us, hl with | [_, _], _ => rfl
  have Dde : Def K mg "_law_delivered" sDel ["_law_model", "_law_way"] _ _ := ⟨Fde, PySem.W.mg_of X G ade, bde⟩
  have Fsn := fun_mk (st := sSent) lsn csn ksn
  have bsn := Fsn.binds (ps := ["_law_model"]) fun _ _ _ _ _ _ us hl => match us, hl with | [_], _ => rfl
  have Dsn : Def K mg "_law_sent" sSent ["_law_model"] _ _ := ⟨Fsn, PySem.W.mg_of X G asn, bsn⟩
  have Fto := fun_mk (st := sTold) lto cto kto
  have bto := Fto.binds (ps := ["_law_talk", "_law_deed_here"]) fun _ _ _ _ _ _ us hl => match us, hl with | [_, _], _ => rfl
  have Dto : Def K mg "_law_told" sTold ["_law_talk", "_law_deed_here"] _ _ := ⟨Fto, PySem.W.mg_of X G ato, bto⟩
  have Fdd := fun_mk (st := sDeed) ldd cdd kdd
  have bdd := Fdd.binds (ps := ["_law_cell_here", "_law_model"]) fun _ _ _ _ _ _ us hl => match us, hl with | [_, _], _ => rfl
  have Ddd : Def K mg "_law_deed" sDeed ["_law_cell_here", "_law_model"] _ _ := ⟨Fdd, PySem.W.mg_of X G add, bdd⟩
  have Fdn := fun_mk (st := sDone) ldn cdn kdn
  have bdn := Fdn.binds (ps := ["_law_model", "_law_deed_here"]) fun _ _ _ _ _ _ us hl => match us, hl with | [_, _], _ => rfl
  have Ddn : Def K mg "_law_done" sDone ["_law_model", "_law_deed_here"] _ _ := ⟨Fdn, PySem.W.mg_of X G adn, bdn⟩
  have Fis := fun_mk (st := sIs) lis cis kis
  have bis := Fis.binds (ps := ["_law_talk", "_law_model"]) fun _ _ _ _ _ _ us hl => match us, hl with | [_, _], _ => rfl
  have Dis : Def K mg "_law_is_it" sIs ["_law_talk", "_law_model"] _ _ := ⟨Fis, PySem.W.mg_of X G ais, bis⟩
  have Fla := fun_mk (st := sLaw) lla cla kla
  have bla := Fla.binds (ps := ["_law_script"]) fun _ _ _ _ _ _ us hl => match us, hl with | [_], _ => rfl
  have FSI := fun_mk (st := sSI) lSI cSI kSI
  have bSI := FSI.binds (ps := ["self", "window", "generator"]) fun _ _ _ _ _ _ us hl => match us, hl with | [_, _, _], _ => rfl
  have MSI : Meth K CS "__init__" _ := ⟨aSI, iSI, kSI⟩
  have FSQ := fun_mk (st := sSQ) lSQ cSQ kSQ
  have bSQ := FSQ.binds (ps := ["self", "letter"]) fun _ _ _ _ _ _ us hl => match us, hl with | [_, _], _ => rfl
  have MSQ : Meth K CS "queue" _ := ⟨aSQ, iSQ, kSQ⟩
  have FSO := fun_mk (st := sSO) lSO cSO kSO
  have bSO := FSO.binds (ps := ["self"]) fun _ _ _ _ _ _ us hl => match us, hl with | [_], _ => rfl
  have MSO : Meth K CS "open_letters" _ := ⟨aSO, iSO, kSO⟩
  have FSP := fun_mk (st := sSP) lSP cSP kSP
  have bSP := FSP.binds (ps := ["self", "at"]) fun _ _ _ _ _ _ us hl => match us, hl with | [_, _], _ => rfl
  have MSP : Meth K CS "payload" _ := ⟨aSP, iSP, kSP⟩
  have FSV := fun_mk (st := sSPs) lSV cSV kSV
  have bSV := FSV.binds (ps := ["self"]) fun _ _ _ _ _ _ us hl => match us, hl with | [_], _ => rfl
  have MSV : Meth K CS "payloads" _ := ⟨aSV, iSV, kSV⟩
  have FSH := fun_mk (st := sSH) lSH cSH kSH
  have bSH := FSH.binds (ps := ["self", "payload"]) fun _ _ _ _ _ _ us hl => match us, hl with | [_, _], _ => rfl
  have MSH : Meth K CS "hear" _ := ⟨aSH, iSH, kSH⟩
  have FKI := fun_mk (st := sKI) lKI cKI kKI
  have bKI := FKI.binds (ps := ["self", "window", "generator"]) fun _ _ _ _ _ _ us hl => match us, hl with | [_, _, _], _ => rfl
  have MKI : Meth K CK "__init__" _ := ⟨aKI, iKI, kKI⟩
  have FKA := fun_mk (st := sKA) lKA cKA kKA
  have bKA := FKA.binds (ps := ["self"]) fun _ _ _ _ _ _ us hl => match us, hl with | [_], _ => rfl
  have MKA : Meth K CK "answer" _ := ⟨aKA, iKA, kKA⟩
  have FKH := fun_mk (st := sKH) lKH cKH kKH
  have bKH := FKH.binds (ps := ["self", "payload"]) fun _ _ _ _ _ _ us hl => match us, hl with | [_, _], _ => rfl
  have MKH : Meth K CK "hear" _ := ⟨aKH, iKH, kKH⟩
  have FTI := fun_mk (st := (sTM 0)) lTI cTI kTI
  have bTI := FTI.binds (ps := ["self", "window", "generator"]) fun _ _ _ _ _ _ us hl => match us, hl with | [_, _, _], _ => rfl
  have MTI : Meth K CT "__init__" _ := ⟨aTI, iTI, kTI⟩
  have FTQ := fun_mk (st := (sTM 1)) lTQ cTQ kTQ
  have bTQ := FTQ.binds (ps := ["self", "letter"]) fun _ _ _ _ _ _ us hl => match us, hl with | [_, _], _ => rfl
  have MTQ : Meth K CT "queue" _ := ⟨aTQ, iTQ, kTQ⟩
  have FTP := fun_mk (st := (sTM 2)) lTP cTP kTP
  have bTP := FTP.binds (ps := ["self", "way", "payload"]) fun _ _ _ _ _ _ us hl => match us, hl with | [_, _, _], _ => rfl
  have MTP : Meth K CT "put" _ := ⟨aTP, iTP, kTP⟩
  have FTS := fun_mk (st := (sTM 3)) lTS cTS kTS
  have bTS := FTS.binds (ps := ["self"]) fun _ _ _ _ _ _ us hl => match us, hl with | [_], _ => rfl
  have MTS : Meth K CT "send" _ := ⟨aTS, iTS, kTS⟩
  have FTC := fun_mk (st := (sTM 4)) lTC cTC kTC
  have bTC := FTC.binds (ps := ["self", "way", "place"]) fun _ _ _ _ _ _ us hl => match us, hl with | [_, _, _], _ => rfl
  have MTC : Meth K CT "check_place" _ := ⟨aTC, iTC, kTC⟩
  have FTO := fun_mk (st := (sTM 5)) lTO cTO kTO
  have bTO := FTO.binds (ps := ["self", "way", "place"]) fun _ _ _ _ _ _ us hl => match us, hl with | [_, _, _], _ => rfl
  have MTO : Meth K CT "lose" _ := ⟨aTO, iTO, kTO⟩
  have FTR := fun_mk (st := (sTM 6)) lTR cTR kTR
  have bTR := FTR.binds (ps := ["self", "way", "place"]) fun _ _ _ _ _ _ us hl => match us, hl with | [_, _, _], _ => rfl
  have MTR : Meth K CT "repeat" _ := ⟨aTR, iTR, kTR⟩
  have FTD := fun_mk (st := (sTM 7)) lTD cTD kTD
  have bTD := FTD.binds (ps := ["self", "way", "place", "first", "pattern"]) fun _ _ _ _ _ _ us hl => match us, hl with | [_, _, _, _, _], _ => rfl
  have MTD : Meth K CT "damage" _ := ⟨aTD, iTD, kTD⟩
  have FTV := fun_mk (st := (sTM 8)) lTV cTV kTV
  have bTV := FTV.binds (ps := ["self", "way"]) fun _ _ _ _ _ _ us hl => match us, hl with | [_, _], _ => rfl
  have MTV : Meth K CT "deliver" _ := ⟨aTV, iTV, kTV⟩
  have FTL := fun_mk (st := (sTM 9)) lTL cTL kTL
  have bTL := FTL.binds (ps := ["self", "way"]) fun _ _ _ _ _ _ us hl => match us, hl with | [_, _], _ => rfl
  have MTL : Meth K CT "line" _ := ⟨aTL, iTL, kTL⟩
  have FTT := fun_mk (st := (sTM 10)) lTT cTT kTT
  have bTT := FTT.binds (ps := ["self"]) fun _ _ _ _ _ _ us hl => match us, hl with | [_], _ => rfl
  have MTT : Meth K CT "taken" _ := ⟨aTT, iTT, kTT⟩
  have FTK := fun_mk (st := (sTM 11)) lTK cTK kTK
  have bTK := FTK.binds (ps := ["self"]) fun _ _ _ _ _ _ us hl => match us, hl with | [_], _ => rfl
  have MTK : Meth K CT "known" _ := ⟨aTK, iTK, kTK⟩
  have FTF := fun_mk (st := (sTM 12)) lTF cTF kTF
  have bTF := FTF.binds (ps := ["self"]) fun _ _ _ _ _ _ us hl => match us, hl with | [_], _ => rfl
  have MTF : Meth K CT "finish" _ := ⟨aTF, iTF, kTF⟩
  refine ⟨PySem.W.fnOf "law" "law" (defArgs sLaw) (defBody sLaw) (defScope sLaw) .none kVla dcla pmla anla cdla ctla, fun s v => .of_eq rfl, fun base _ _ => ?_⟩
  have k_bb : Cal l.prog w K mg base CX0 1 "byte_bits" spBB := Dbb.cal (ok_bb Dbb hB grange gstr)
  have k_bo : Cal l.prog w K mg base CX0 2 "bits_of" (spBitsOf K) := Dbo.cal (ok_bitsOf Dbo k_bb)
  have k_yo : Cal l.prog w K mg base CX0 1 "byte_of" spByteOf := Dyo.cal (ok_byteOf Dyo gint)
  have k_ys : Cal l.prog w K mg base CX0 2 "bytes_of" spBytesOf := Dys.cal (ok_bytesOf Dys k_yo hB glen grange)
  have k_ad : Cal l.prog w K mg base CX0 1 "added" spAdded := Dad.cal (ok_added Dad genumerate)
  have k_re : Cal l.prog w K mg base CX0 2 "remainder" spRem := Dre.cal (ok_rem Dre k_ad glen grange)
  have k_ch : Cal l.prog w K mg base CX0 3 "check_bits" spCheck := Dch.cal (ok_check Dch k_re glen)
  have k_it : Cal l.prog w K mg base CX0 4 "is_intact" spIntact := Dit.cal (ok_intact Dit k_ch glen)
  have k_pk : Cal l.prog w K mg base CX0 4 "pack" (spPack K) := Dpk.cal (ok_pack Dpk k_bo k_ch)
  have k_up : Cal l.prog w K mg base CX0 5 "unpack" spUnpack := Dup.cal (ok_unpack Dup k_it k_ys glen)
  have k_mo : Cal l.prog w K mg base CX0 1 "modulus_of" spMod := Dmo.cal (ok_mod Dmo)
  have k_SI : Mak l.prog w K mg base CX0 1 "Sender" CS (spSI CS) := ⟨_, _, _, ⟨mkS, aSI, iSI, kcS⟩, ok_SI FSI XS, PySem.W.mg_of X G gS, bSI⟩
  have k_SQ : Met l.prog w K mg base CX0 1 CS "queue" (spSQ CS) := ⟨_, _, _, cS, MSQ, ok_SQ FSQ XS glen gtuple hL, bSQ⟩
  have k_SO : Met l.prog w K mg base CX0 1 CS "open_letters" (spSO CS) := ⟨_, _, _, cS, MSO, ok_SO FSO XS glen grange gmin glist, bSO⟩
  have k_SP : Met l.prog w K mg base CX0 5 CS "payload" (spSP CS) := ⟨_, _, _, cS, MSP, ok_SP FSP XS k_pk k_mo glist, bSP⟩
  have k_SV : Met l.prog w K mg base CX0 6 CS "payloads" (spSPs CS) := ⟨_, _, _, cS, MSV, ok_SPs FSV XS k_SO k_SP, bSV⟩
  have k_SH : Met l.prog w K mg base CX0 6 CS "hear" (spSH CS) := ⟨_, _, _, cS, MSH, ok_SH FSH XS k_up k_mo k_SO glen, bSH⟩
  have k_KI : Mak l.prog w K mg base CX0 1 "Taker" CK (spKI CK) := ⟨_, _, _, ⟨mkK, aKI, iKI, kcK⟩, ok_KI FKI XK, PySem.W.mg_of X G gK, bKI⟩
  have k_KA : Met l.prog w K mg base CX0 5 CK "answer" (spKA CK) := ⟨_, _, _, cK, MKA, ok_KA FKA XK k_pk k_mo glen, bKA⟩
  have k_KH : Met l.prog w K mg base CX0 6 CK "hear" (spKH CK) := ⟨_, _, _, cK, MKH, ok_KH FKH XK k_up k_mo k_KA glen gtuple, bKH⟩
  have k_TI : Mak l.prog w K mg base CX0 3 "Talk" CT (spTI ⟨CT, CS, CK⟩) := ⟨_, _, _, ⟨mkT, aTI, iTI, kcT⟩, ok_TI (c := ⟨CT, CS, CK⟩) FTI XT k_SI k_KI, PySem.W.mg_of X G gT, bTI⟩
  have k_TQ : Met l.prog w K mg base CX0 2 CT "queue" (spTQ ⟨CT, CS, CK⟩) := ⟨_, _, _, cT, MTQ, ok_TQ (c := ⟨CT, CS, CK⟩) FTQ XT k_SQ, bTQ⟩
  have k_TP : Met l.prog w K mg base CX0 1 CT "put" (spTP ⟨CT, CS, CK⟩) := ⟨_, _, _, cT, MTP, ok_TP (c := ⟨CT, CS, CK⟩) FTP XT glen hM, bTP⟩
  have k_TS : Met l.prog w K mg base CX0 7 CT "send" (spTS ⟨CT, CS, CK⟩) := ⟨_, _, _, cT, MTS, ok_TS (c := ⟨CT, CS, CK⟩) FTS XT k_SV k_TP glen, bTS⟩
  have k_TC : Met l.prog w K mg base (L2.CX l.prog w) 1 CT "check_place" (spTC ⟨CT, CS, CK⟩ CR) := ⟨_, _, _, cT, MTC, ok_TC (c := ⟨CT, CS, CK⟩) FTC XT TR glen, bTC⟩
  have k_TO : Met l.prog w K mg base (L2.CX l.prog w) 2 CT "lose" (spTO ⟨CT, CS, CK⟩ CR) := ⟨_, _, _, cT, MTO, ok_TO (c := ⟨CT, CS, CK⟩) FTO XT k_TC, bTO⟩
  have k_TR : Met l.prog w K mg base (L2.CX l.prog w) 2 CT "repeat" (spTR ⟨CT, CS, CK⟩ CR) := ⟨_, _, _, cT, MTR, ok_TR (c := ⟨CT, CS, CK⟩) FTR XT k_TC glen hM, bTR⟩
  have k_TD : Met l.prog w K mg base (L2.CX l.prog w) 2 CT "damage" (spTD ⟨CT, CS, CK⟩ CR) := ⟨_, _, _, cT, MTD, ok_TD (c := ⟨CT, CS, CK⟩) FTD XT TR k_TC k_ad glen, bTD⟩
  have k_TV : Met l.prog w K mg base (L2.CX l.prog w) 7 CT "deliver" (spTV ⟨CT, CS, CK⟩ CR) := ⟨_, _, _, cT, MTV, ok_TV (c := ⟨CT, CS, CK⟩) FTV XT XK k_TC k_TP k_KH k_SH, bTV⟩
  have k_TL : Met l.prog w K mg base CX0 1 CT "line" (spTL ⟨CT, CS, CK⟩) := ⟨_, _, _, cT, MTL, ok_TL (c := ⟨CT, CS, CK⟩) FTL XT glist, bTL⟩
  have k_TT : Met l.prog w K mg base CX0 1 CT "taken" (spTT ⟨CT, CS, CK⟩) := ⟨_, _, _, cT, MTT, ok_TT (c := ⟨CT, CS, CK⟩) FTT XT XK glist, bTT⟩
  have k_TK : Met l.prog w K mg base CX0 1 CT "known" (spTK ⟨CT, CS, CK⟩) := ⟨_, _, _, cT, MTK, ok_TK (c := ⟨CT, CS, CK⟩) FTK XT XS, bTK⟩
  have k_TF : Met l.prog w K mg base CX0 8 CT "finish" (spTF ⟨CT, CS, CK⟩) := ⟨_, _, _, cT, MTF, ok_TF (c := ⟨CT, CS, CK⟩) FTF XT XS k_TS k_TV glen hW, bTF⟩
  have k_ce : Cal l.prog w K mg base CX0 1 "_law_cell" (spCe K) := Dce.cal (ok_cell Dce glen)
  have k_dr : Cal l.prog w K mg base CX0 1 "_law_draws" spDr := Ddr.cal (ok_draws Ddr grange gint)
  have k_ge : Cal l.prog w K mg base CX0 2 "_law_generator" spGe := Dge.cal (ok_gen Dge k_dr grange gint gstr)
  have k_le : Cal l.prog w K mg base CX0 2 "_law_letter" spLe := Dle.cal (ok_let Dle k_dr grange gint gtuple)
  have k_pu : Cal l.prog w K mg base CX0 1 "_law_put" spPu := Dpu.cal (ok_put Dpu glen)
  have k_sn : Cal l.prog w K mg base CX0 5 "_law_sent" spMs := Dsn.cal (ok_sent Dsn k_pk k_pu glen grange gmin glist)
  have k_de : Cal l.prog w K mg base CX0 6 "_law_delivered" spDl := Dde.cal (ok_del Dde k_pk k_up k_pu glen gtuple gmin)
  have k_dd : Cal l.prog w K mg base CX0 3 "_law_deed" spDe := Ddd.cal (ok_deed Ddd k_dr k_le grange gint gstr glen)
  have k_dn : Cal l.prog w K mg base CX0 7 "_law_done" spDn := Ddn.cal (ok_done Ddn k_sn k_de k_ad glen)
  have k_to : Cal l.prog w K mg base CX0 8 "_law_told" (spTo ⟨CT, CS, CK⟩) := Dto.cal (ok_told (c := ⟨CT, CS, CK⟩) Dto TR k_TQ k_TS k_TV k_TO k_TR k_TD)
  have k_is : Cal l.prog w K mg base CX0 2 "_law_is_it" (spIs ⟨CT, CS, CK⟩) := Dis.cal (ok_is (c := ⟨CT, CS, CK⟩) Dis k_TL k_TT k_TK glen)
  exact ok_law (c := ⟨CT, CS, CK⟩) Fla k_ce k_ge k_dd k_dn k_to k_is k_TI k_TF k_TT k_TK grange glen
theorem walk {l : PySem.W.OpenLaw} {q : Program} {loose : List Str} {XP : (Str → Option Value) → Heap → Prop} {YP : World → Heap → Prop} {d : DefRec} {K : Params → PySem.W.Frag} (hn : l.most = some 63) (hdf : d.params.defaults = [])
    (hY : ∀ (w : World) (h : Heap), YP w h → (K w.params).In h)
    (F : ∀ (w : World) (mg : Str → Option Value) (fa : Addr) (h : Heap), (K w.params).In h → h.Ns mainGlobals mg → mg d.name = some (.ref fa) →
      ∃ fd : FuncData, (∀ (s : Shared) (u : Value), BindsTo s fd ⟨[u], []⟩ [("_law_script", u)]) ∧ ∀ base : Heap, (K w.params).In base → base.Ns mainGlobals mg → FnOk l.prog w (K w.params) mg base CX0 9 fa fd ["_law_script"] (spLaw (K w.params))) :
    PySem.W.WalkO q loose XP YP l.row.toRowW d [] (fun f vs => PySem.call f vs) :=
  L2.walk_of (n := 63) (k := 9) (x := "_law_script") (CX := fun _ => CX0) (sp := fun w => spLaw (K w.params)) hn (by decide) hdf ⟨rfl, by decide, by decide⟩ hY F (fun _ _ a ns hl _ hS => ⟨a, ns, rfl, hS, hl, fun _ => rfl⟩) fun _ _ _ _ _ z => z
end Tk
end

section
set_option Elab.async false
set_option maxRecDepth 100000
open PySem PySem.W PyProof.Rows in
set_option maxRecDepth 100000 in
set_option maxHeartbeats 0 in
theorem PySem.Challenge.cw_edgelink_k43_talks_holds : PySem.Challenge.rw_edgelink_k43_talks.Holds := by
  w_on; o_law; k_head; (case hw => w_witness2)
  k_fill
  refine Tk.walk (l := PySem.Challenge.rw_edgelink_k43_talks) rfl rfl (fun w h Y => PySem.W.kIn_of Y) ?F
  case F =>
    intro w mg fa h KX G hmg
    refine' Tk.all_mk KX G hmg ?TR ?abb ?lbb ?cbb ?kbb ?abo ?lbo ?cbo ?kbo ?ayo ?lyo ?cyo ?kyo ?ays ?lys ?cys ?kys ?aad ?lad ?cad ?kad ?are ?lre ?cre ?kre ?ach ?lch ?cch ?kch ?ait ?lit ?cit ?kit ?apk ?lpk ?cpk ?kpk ?aup ?lup ?cup ?kup ?amo ?lmo ?cmo ?kmo ?ace ?lce ?cce ?kce ?adr ?ldr ?cdr ?kdr ?age ?lge ?cge ?kge ?ale ?lle ?cle ?kle ?apu ?lpu ?cpu ?kpu ?ade ?lde ?cde ?kde ?asn ?lsn ?csn ?ksn ?ato ?lto ?cto ?kto ?add ?ldd ?cdd ?kdd ?adn ?ldn ?cdn ?kdn ?ais ?lis ?cis ?kis ?ala ?lla ?cla ?kla ?gS ?pgS ?hdS ?poS ?saS ?mkS ?kcS ?nS0 ?nS1 ?nS2 ?nS3 ?gK ?pgK ?hdK ?poK ?saK ?mkK ?kcK ?nK0 ?nK1 ?nK2 ?gT ?pgT ?hdT ?poT ?saT ?mkT ?kcT ?nT0 ?nT1 ?nT2 ?nT3 ?nT4 ?aSI ?iSI ?lSI ?cSI ?kSI ?aSQ ?iSQ ?lSQ ?cSQ ?kSQ ?aSO ?iSO ?lSO ?cSO ?kSO ?aSP ?iSP ?lSP ?cSP ?kSP ?aSV ?iSV ?lSV ?cSV ?kSV ?aSH ?iSH ?lSH ?cSH ?kSH ?aKI ?iKI ?lKI ?cKI ?kKI ?aKA ?iKA ?lKA ?cKA ?kKA ?aKH ?iKH ?lKH ?cKH ?kKH ?aTI ?iTI ?lTI ?cTI ?kTI ?aTQ ?iTQ ?lTQ ?cTQ ?kTQ ?aTP ?iTP ?lTP ?cTP ?kTP ?aTS ?iTS ?lTS ?cTS ?kTS ?aTC ?iTC ?lTC ?cTC ?kTC ?aTO ?iTO ?lTO ?cTO ?kTO ?aTR ?iTR ?lTR ?cTR ?kTR ?aTD ?iTD ?lTD ?cTD ?kTD ?aTV ?iTV ?lTV ?cTV ?kTV ?aTL ?iTL ?lTL ?cTL ?kTL ?aTT ?iTT ?lTT ?cTT ?kTT ?aTK ?iTK ?lTK ?cTK ?kTK ?aTF ?iTF ?lTF ?cTF ?kTF ?zlen ?zrange ?zstr ?zint ?zenumerate ?ztuple ?zlist ?zmin ?yB ?yL ?yM ?yW ?lW
    (case TR =>
      refine' PySem.RefX.ref_mk KX G ?raC ?rzs ?rxL ?rrv ?rsa ?rga ?rgg ?rnb ?ra1 ?rt1 ?rkC ?reC ?rvC ?rtC ?rhC ?riC ?rsC ?rme ?rop ?rsi ?rfi ?rtp ?rl1 ?rc1 ?rl2 ?rv2 ?rl3
      (case raC => k_is)
      (case rzs => k_is)
      (case rxL => k_is)
      (case rrv => decide +kernel)
      (case rsa => k_is)
      (case rga => k_is)
      (case rgg => k_is)
      (case rnb => k_is)
      (case ra1 => k_is)
      (case rt1 => k_is)
      (case rkC => k_is)
      (case reC => k_is)
      (case rvC => k_is)
      (case rtC => k_is)
      (case rhC => k_is)
      (case riC => k_is)
      (case rsC => k_is)
      (case rme => k_is)
      (case rop => k_is)
      (case rsi => ks_is)
      (case rfi => decide +kernel)
      (case rtp => decide +kernel)
      (case rl1 => k_is)
      (case rc1 => k_is)
      (case rl2 => k_is)
      (case rv2 => rfl)
      (case rl3 => k_is))
    (case abb => k_is)
    (case lbb => k_is)
    (case cbb => k_is)
    (case kbb => k_is)
    (case abo => k_is)
    (case lbo => k_is)
    (case cbo => k_is)
    (case kbo => k_is)
    (case ayo => k_is)
    (case lyo => k_is)
    (case cyo => k_is)
    (case kyo => k_is)
    (case ays => k_is)
    (case lys => k_is)
    (case cys => k_is)
    (case kys => k_is)
    (case aad => k_is)
    (case lad => k_is)
    (case cad => k_is)
    (case kad => k_is)
    (case are => k_is)
    (case lre => k_is)
    (case cre => k_is)
    (case kre => k_is)
    (case ach => k_is)
    (case lch => k_is)
    (case cch => k_is)
    (case kch => k_is)
    (case ait => k_is)
    (case lit => k_is)
    (case cit => k_is)
    (case kit => k_is)
    (case apk => k_is)
    (case lpk => k_is)
    (case cpk => k_is)
    (case kpk => k_is)
    (case aup => k_is)
    (case lup => k_is)
    (case cup => k_is)
    (case kup => k_is)
    (case amo => k_is)
    (case lmo => k_is)
    (case cmo => k_is)
    (case kmo => k_is)
    (case ace => k_is)
    (case lce => k_is)
    (case cce => k_is)
    (case kce => k_is)
    (case adr => k_is)
    (case ldr => k_is)
    (case cdr => k_is)
    (case kdr => k_is)
    (case age => k_is)
    (case lge => k_is)
    (case cge => k_is)
    (case kge => k_is)
    (case ale => k_is)
    (case lle => k_is)
    (case cle => k_is)
    (case kle => k_is)
    (case apu => k_is)
    (case lpu => k_is)
    (case cpu => k_is)
    (case kpu => k_is)
    (case ade => k_is)
    (case lde => k_is)
    (case cde => k_is)
    (case kde => k_is)
    (case asn => k_is)
    (case lsn => k_is)
    (case csn => k_is)
    (case ksn => k_is)
    (case ato => k_is)
    (case lto => k_is)
    (case cto => k_is)
    (case kto => k_is)
    (case add => k_is)
    (case ldd => k_is)
    (case cdd => k_is)
    (case kdd => k_is)
    (case adn => k_is)
    (case ldn => k_is)
    (case cdn => k_is)
    (case kdn => k_is)
    (case ais => k_is)
    (case lis => k_is)
    (case cis => k_is)
    (case kis => k_is)
    (case ala => k_is)
    (case lla => k_is)
    (case cla => k_is)
    (case kla => k_is)
    (case gS => k_is)
    (case pgS => k_is)
    (case hdS => k_is)
    (case poS => k_is)
    (case saS => k_is)
    (case mkS => k_is)
    (case kcS => k_is)
    (case nS0 => k_is)
    (case nS1 => k_is)
    (case nS2 => k_is)
    (case nS3 => k_is)
    (case gK => k_is)
    (case pgK => k_is)
    (case hdK => k_is)
    (case poK => k_is)
    (case saK => k_is)
    (case mkK => k_is)
    (case kcK => k_is)
    (case nK0 => k_is)
    (case nK1 => k_is)
    (case nK2 => k_is)
    (case gT => k_is)
    (case pgT => k_is)
    (case hdT => k_is)
    (case poT => k_is)
    (case saT => k_is)
    (case mkT => k_is)
    (case kcT => k_is)
    (case nT0 => k_is)
    (case nT1 => k_is)
    (case nT2 => k_is)
    (case nT3 => k_is)
    (case nT4 => k_is)
    (case aSI => k_is)
    (case iSI => k_is)
    (case lSI => k_is)
    (case cSI => k_is)
    (case kSI => k_is)
    (case aSQ => k_is)
    (case iSQ => k_is)
    (case lSQ => k_is)
    (case cSQ => k_is)
    (case kSQ => k_is)
    (case aSO => k_is)
    (case iSO => k_is)
    (case lSO => k_is)
    (case cSO => k_is)
    (case kSO => k_is)
    (case aSP => k_is)
    (case iSP => k_is)
    (case lSP => k_is)
    (case cSP => k_is)
    (case kSP => k_is)
    (case aSV => k_is)
    (case iSV => k_is)
    (case lSV => k_is)
    (case cSV => k_is)
    (case kSV => k_is)
    (case aSH => k_is)
    (case iSH => k_is)
    (case lSH => k_is)
    (case cSH => k_is)
    (case kSH => k_is)
    (case aKI => k_is)
    (case iKI => k_is)
    (case lKI => k_is)
    (case cKI => k_is)
    (case kKI => k_is)
    (case aKA => k_is)
    (case iKA => k_is)
    (case lKA => k_is)
    (case cKA => k_is)
    (case kKA => k_is)
    (case aKH => k_is)
    (case iKH => k_is)
    (case lKH => k_is)
    (case cKH => k_is)
    (case kKH => k_is)
    (case aTI => k_is)
    (case iTI => k_is)
    (case lTI => k_is)
    (case cTI => k_is)
    (case kTI => k_is)
    (case aTQ => k_is)
    (case iTQ => k_is)
    (case lTQ => k_is)
    (case cTQ => k_is)
    (case kTQ => k_is)
    (case aTP => k_is)
    (case iTP => k_is)
    (case lTP => k_is)
    (case cTP => k_is)
    (case kTP => k_is)
    (case aTS => k_is)
    (case iTS => k_is)
    (case lTS => k_is)
    (case cTS => k_is)
    (case kTS => k_is)
    (case aTC => k_is)
    (case iTC => k_is)
    (case lTC => k_is)
    (case cTC => k_is)
    (case kTC => k_is)
    (case aTO => k_is)
    (case iTO => k_is)
    (case lTO => k_is)
    (case cTO => k_is)
    (case kTO => k_is)
    (case aTR => k_is)
    (case iTR => k_is)
    (case lTR => k_is)
    (case cTR => k_is)
    (case kTR => k_is)
    (case aTD => k_is)
    (case iTD => k_is)
    (case lTD => k_is)
    (case cTD => k_is)
    (case kTD => k_is)
    (case aTV => k_is)
    (case iTV => k_is)
    (case lTV => k_is)
    (case cTV => k_is)
    (case kTV => k_is)
    (case aTL => k_is)
    (case iTL => k_is)
    (case lTL => k_is)
    (case cTL => k_is)
    (case kTL => k_is)
    (case aTT => k_is)
    (case iTT => k_is)
    (case lTT => k_is)
    (case cTT => k_is)
    (case kTT => k_is)
    (case aTK => k_is)
    (case iTK => k_is)
    (case lTK => k_is)
    (case cTK => k_is)
    (case kTK => k_is)
    (case aTF => k_is)
    (case iTF => k_is)
    (case lTF => k_is)
    (case cTF => k_is)
    (case kTF => k_is)
    (case zlen => k_is)
    (case zrange => k_is)
    (case zstr => k_is)
    (case zint => k_is)
    (case zenumerate => k_is)
    (case ztuple => k_is)
    (case zlist => k_is)
    (case zmin => k_is)
    (case yB => k_is)
    (case yL => k_is)
    (case yM => k_is)
    (case yW => k_is)
    (case lW => k_is)
end
